/- Lean functions for the Go functions that the laws of this seat use, and the proofs that the Go code computes them; conditions: the readings that each theorem names. Written by a program. -/
import Derived.Test.YtmogojefpjmhkaaPx0
import Derived.Test.YtmogojefpjmhkaaPx3
import Derived.Test.YtmogojefpjmhkaaPx4
import Derived.Test.YtmogojefpjmhkaaPx5
import Derived.Test.YtmogojefpjmhkaaShort
namespace Go.Proofs.Ytmogojefpjmhkaa.P
open Go.RowKit Go.Proofs.YtmogojefpjmhkaaW.PrintWords Go.Proofs.YtmogojefpjmhkaaW.PrintLast Go.Proofs.YtmogojefpjmhkaaW.PrintMore
set_option linter.unusedVariables false
set_option linter.unusedSimpArgs false

/-! ### tallboyref15_Kind: function 11 -/
def tallboyref15_Kind.l0 : Nat → ByteArray → Int → Option (Int)
 | 0, _, _ => none
 | k + 1, x0, x3 => if x3 ≤ 15 then ((tallboyref15_Name.f x3).bind fun t105 => (if t105.toList = x0.toList then (some x3) else (tallboyref15_Kind.l0 k x0 (wrap64 (x3 + 1))))) else (some 0)
def tallboyref15_Kind.f (k : Nat) (a0 : ByteArray) : Option (Int) := tallboyref15_Kind.l0 k a0 1
theorem tallboyref15_Kind.mono_l : ∀ k, (∀ y0 y1, LeO (tallboyref15_Kind.l0 k y0 y1) (tallboyref15_Kind.l0 (k + 1) y0 y1))
 | 0 => fun _ _ r h => by simp [tallboyref15_Kind.l0] at h
 | k + 1 => by
  have ih0 := tallboyref15_Kind.mono_l k
  ·intro y0 y1
   unfold tallboyref15_Kind.l0
   repeat' first
   | (with_reducible exact ih0 _ _)
   | (with_reducible exact LeO.refl _)
   | (with_reducible exact LeO.none _)
   | (with_reducible refine LeO.ite ?_ ?_)
   | (with_reducible refine LeO.bind ?_ (fun _ => ?_))
   | exact ih0 _ _
   | exact LeO.none _
   | refine LeO.ite ?_ ?_
   | refine LeO.bind ?_ (fun _ => ?_)
theorem tallboyref15_Kind.mono : ∀ a0 k, LeO (tallboyref15_Kind.f k a0) (tallboyref15_Kind.f (k + 1) a0) := by
 intro a0 k
 have ih0 := tallboyref15_Kind.mono_l k; unfold tallboyref15_Kind.f
 repeat' first
   | (with_reducible exact ih0 _ _)
   | (with_reducible exact LeO.refl _)
   | (with_reducible exact LeO.none _)
   | (with_reducible refine LeO.ite ?_ ?_)
   | (with_reducible refine LeO.bind ?_ (fun _ => ?_))
   | exact ih0 _ _
   | exact LeO.none _
   | refine LeO.ite ?_ ?_
   | refine LeO.bind ?_ (fun _ => ?_)
set_option maxHeartbeats 8000000 in
set_option maxRecDepth 100000 in
theorem tallboyref15_Kind.calls (k : Nat) (a0 : ByteArray) (r : Int) (w : World) (h : tallboyref15_Kind.f k a0 = some r) :
  Calls Try.prog 11 #[.string a0] w fun e w' => e = .returned (.int .i64 r) ∧ Below w.heap.size w w' := by
 have HB := Aside0.mk (Below.refl w.heap.size w); have H : (tallboyref15_Kind.l0 k a0 1) = some r := h; clear h; have H' := Aside0.mk H; clear H; go_enter Try.func11, Try.ntmps11; go_wp2
 go_loopg [3] k (fun kq v3 w' => ∃ (x3_1 : Int), v3 = .int .i64 x3_1 ∧ Aside0 (tallboyref15_Kind.l0 kq a0 x3_1 = some r) ∧ Aside0 (kq ≤ k) ∧ Aside0 (Below w.heap.size w w'))
 case atStart => exact ⟨(1), (by first | rfl | (simp; done) | (simp [*]; done)), H', ⟨Nat.le_refl _⟩, ⟨by repeat (first | (with_reducible first | exact HB.out | apply eA | apply eN | apply eD) | exact HB.out)⟩⟩
 case round =>
  clear H'; (try clear c1); obtain ⟨x3_1, rfl, HA, HK1, HB⟩ := hrel; cases gk with
  | zero => exact absurd HA.out (by simp [tallboyref15_Kind.l0])
  | succ k1 =>
   have H := HA.out; clear HA; simp only [tallboyref15_Kind.l0] at H
   by_cases c2 : x3_1 ≤ 15
   ·rw [if_pos c2] at H; have c2b0 : decide (x3_1 ≤ 15) = true := decide_eq_true c2; clear c2; replace H := Option.bind_eq_some_iff.mp H; obtain ⟨t105, A30, H⟩ := H; replace H : (if t105.toList = a0.toList then (some x3_1) else (tallboyref15_Kind.l0 k1 a0 (wrap64 (x3_1 + 1)))) = some r := H; have A3 := Aside0.mk A30; clear A30
    by_cases c4 : t105.toList = a0.toList
    ·rw [if_pos c4] at H; have c4b0 : (t105.toList == a0.toList) = true := beq_iff_eq.mpr c4; have c4b1 : (t105.toList != a0.toList) = false := bne_eq_false_iff_eq.mpr c4; clear c4; obtain rfl := Option.some.inj H
     go_wp2_with (first | ((with_reducible refine gate_callee (f := 9) rfl ?_); refine goesL_ (some 9) rfl rfl Try.func9 (by kernel_rfl) rfl #[.int .i64 x3_1] rfl (by (try simp only [List.map_toArray, List.map_cons, List.map_nil]); first | done | rfl | (simp only [List.length_drop, List.length_take]; rfl)) ?_; (with_reducible refine (tallboyref15_Name.calls x3_1 t105 _ A3.out).mono ?_); rintro e w5 ⟨rfl, hb⟩; refine ⟨_, rfl, ?_⟩; have n0_ := Aside0.mk (below_step (by repeat (first | (with_reducible first | exact HB.out | apply eA | apply eN | apply eD) | exact HB.out)) hb); clear HB; have HB := n0_; clear n0_; (try clear hb); (try clear hb2); (try clear hk); (try clear hi)))
     go_ret
     exact ⟨by first | rfl | (simp [errW_none, errW_some] <;> rfl) | (simp [*, errW_none, errW_some] <;> rfl), by repeat (first | (with_reducible first | exact HB.out | apply eA | apply eN | apply eD) | exact HB.out)⟩
    ·rw [if_neg c4] at H; have c4b0 : (t105.toList == a0.toList) = false := beq_eq_false_iff_ne.mpr c4; have c4b1 : (t105.toList != a0.toList) = true := bne_iff_ne.mpr c4; have H' := Aside0.mk H; clear H
     go_wp2_with (first | ((with_reducible refine gate_callee (f := 9) rfl ?_); refine goesL_ (some 9) rfl rfl Try.func9 (by kernel_rfl) rfl #[.int .i64 x3_1] rfl (by (try simp only [List.map_toArray, List.map_cons, List.map_nil]); first | done | rfl | (simp only [List.length_drop, List.length_take]; rfl)) ?_; (with_reducible refine (tallboyref15_Name.calls x3_1 t105 _ A3.out).mono ?_); rintro e w6 ⟨rfl, hb⟩; refine ⟨_, rfl, ?_⟩; have n0_ := Aside0.mk (below_step (by repeat (first | (with_reducible first | exact HB.out | apply eA | apply eN | apply eD) | exact HB.out)) hb); clear HB; have HB := n0_; clear n0_; (try clear hb); (try clear hb2); (try clear hk); (try clear hi)))
     go_roundg k1
     case measure => have := HK1.out; omega
     case rel => exact ⟨(wrap64 (x3_1 + 1)), (by first | rfl | (simp; done) | (simp [*]; done)), H', ⟨by have := HK1.out; omega⟩, ⟨by repeat (first | (with_reducible first | exact HB.out | apply eA | apply eN | apply eD) | exact HB.out)⟩⟩
   ·rw [if_neg c2] at H; have c2b0 : decide (x3_1 ≤ 15) = false := decide_eq_false c2; clear c2; obtain rfl := Option.some.inj H; go_wp2; go_ret
    exact ⟨by first | rfl | (simp [errW_none, errW_some] <;> rfl) | (simp [*, errW_none, errW_some] <;> rfl), by repeat (first | (with_reducible first | exact HB.out | apply eA | apply eN | apply eD) | exact HB.out)⟩

/-! ### verb_Stores: function 12 -/
def verb_Stores.f (a0 : Int) : Option (Bool) := if a0 ≥ 5 then (some (decide (a0 ≤ 10))) else (some false)
set_option maxHeartbeats 8000000 in
set_option maxRecDepth 100000 in
theorem verb_Stores.calls (a0 : Int) (r : Bool) (w : World) (h : verb_Stores.f a0 = some r) :
  Calls Try.prog 12 #[.int .i64 a0] w fun e w' => e = .returned (.bool r) ∧ Drawn0 w w' := by
 have H : (if a0 ≥ 5 then (some (decide (a0 ≤ 10))) else (some false)) = some r := h; clear h
 by_cases c2 : a0 ≥ 5
 ·rw [if_pos c2] at H; have c2b0 : decide (5 ≤ a0) = true := decide_eq_true c2; clear c2; obtain rfl := Option.some.inj H; go_enter Try.func12, Try.ntmps12; go_wp2; go_ret
  exact ⟨by first | rfl | (simp; done) | (simp [*]; done), by repeat (first | exact Drawn0.refl _ | apply Drawn0.step)⟩
 ·rw [if_neg c2] at H; have c2b0 : decide (5 ≤ a0) = false := decide_eq_false c2; clear c2; obtain rfl := Option.some.inj H; go_enter Try.func12, Try.ntmps12; go_wp2; go_ret
  exact ⟨by first | rfl | (simp; done) | (simp [*]; done), by repeat (first | exact Drawn0.refl _ | apply Drawn0.step)⟩

/-! ### tallboyref15_Stores: function 13 -/
def tallboyref15_Stores.f (a0 : Int) : Option (Bool) := if a0 ≥ 5 then (some (decide (a0 ≤ 10))) else (some false)
set_option maxHeartbeats 8000000 in
set_option maxRecDepth 100000 in
theorem tallboyref15_Stores.calls (a0 : Int) (r : Bool) (w : World) (h : tallboyref15_Stores.f a0 = some r) :
  Calls Try.prog 13 #[.int .i64 a0] w fun e w' => e = .returned (.bool r) ∧ Drawn0 w w' := by
 have H : (if a0 ≥ 5 then (some (decide (a0 ≤ 10))) else (some false)) = some r := h; clear h
 by_cases c2 : a0 ≥ 5
 ·rw [if_pos c2] at H; have c2b0 : decide (5 ≤ a0) = true := decide_eq_true c2; clear c2; obtain rfl := Option.some.inj H; go_enter Try.func13, Try.ntmps13; go_wp2; go_ret
  exact ⟨by first | rfl | (simp; done) | (simp [*]; done), by repeat (first | exact Drawn0.refl _ | apply Drawn0.step)⟩
 ·rw [if_neg c2] at H; have c2b0 : decide (5 ≤ a0) = false := decide_eq_false c2; clear c2; obtain rfl := Option.some.inj H; go_enter Try.func13, Try.ntmps13; go_wp2; go_ret
  exact ⟨by first | rfl | (simp; done) | (simp [*]; done), by repeat (first | exact Drawn0.refl _ | apply Drawn0.step)⟩

/-! ### verb_Shows: function 14 -/
def verb_Shows.f (a0 : Int) : Option (Bool) := if a0 = 2 then (some true) else (some (a0 == 4))
set_option maxHeartbeats 8000000 in
set_option maxRecDepth 100000 in
theorem verb_Shows.calls (a0 : Int) (r : Bool) (w : World) (h : verb_Shows.f a0 = some r) :
  Calls Try.prog 14 #[.int .i64 a0] w fun e w' => e = .returned (.bool r) ∧ Drawn0 w w' := by
 have H : (if a0 = 2 then (some true) else (some (a0 == 4))) = some r := h; clear h
 by_cases c2 : a0 = 2
 ·rw [if_pos c2] at H; have c2b0 : (a0 == 2) = true := beq_iff_eq.mpr c2; have c2b1 : (a0 != 2) = false := bne_eq_false_iff_eq.mpr c2; clear c2; obtain rfl := Option.some.inj H; go_enter Try.func14, Try.ntmps14; go_wp2; go_ret
  exact ⟨by first | rfl | (simp; done) | (simp [*]; done), by repeat (first | exact Drawn0.refl _ | apply Drawn0.step)⟩
 ·rw [if_neg c2] at H; have c2b0 : (a0 == 2) = false := beq_eq_false_iff_ne.mpr c2; have c2b1 : (a0 != 2) = true := bne_iff_ne.mpr c2; obtain rfl := Option.some.inj H; go_enter Try.func14, Try.ntmps14; go_wp2; go_ret
  exact ⟨by first | rfl | (simp; done) | (simp [*]; done), by repeat (first | exact Drawn0.refl _ | apply Drawn0.step)⟩

/-! ### tallboyref15_Shows: function 15 -/
def tallboyref15_Shows.f (a0 : Int) : Option (Bool) := if a0 = 2 then (some true) else (some (a0 == 4))
set_option maxHeartbeats 8000000 in
set_option maxRecDepth 100000 in
theorem tallboyref15_Shows.calls (a0 : Int) (r : Bool) (w : World) (h : tallboyref15_Shows.f a0 = some r) :
  Calls Try.prog 15 #[.int .i64 a0] w fun e w' => e = .returned (.bool r) ∧ Drawn0 w w' := by
 have H : (if a0 = 2 then (some true) else (some (a0 == 4))) = some r := h; clear h
 by_cases c2 : a0 = 2
 ·rw [if_pos c2] at H; have c2b0 : (a0 == 2) = true := beq_iff_eq.mpr c2; have c2b1 : (a0 != 2) = false := bne_eq_false_iff_eq.mpr c2; clear c2; obtain rfl := Option.some.inj H; go_enter Try.func15, Try.ntmps15; go_wp2; go_ret
  exact ⟨by first | rfl | (simp; done) | (simp [*]; done), by repeat (first | exact Drawn0.refl _ | apply Drawn0.step)⟩
 ·rw [if_neg c2] at H; have c2b0 : (a0 == 2) = false := beq_eq_false_iff_ne.mpr c2; have c2b1 : (a0 != 2) = true := bne_iff_ne.mpr c2; obtain rfl := Option.some.inj H; go_enter Try.func15, Try.ntmps15; go_wp2; go_ret
  exact ⟨by first | rfl | (simp; done) | (simp [*]; done), by repeat (first | exact Drawn0.refl _ | apply Drawn0.step)⟩

/-! ### tallboylaw15_VerbNames: function 3 -/
def tallboylaw15_VerbNames.f (k : Nat) (a0 : Int) (a1 : ByteArray) : Option (Bool) := (verb_Name.f a0).bind fun t106 => ((tallboyref15_Name.f a0).bind fun t107 => (if t106.toList = t107.toList then ((verb_Kind.f a1).bind fun t108 => ((tallboyref15_Kind.f k a1).bind fun t109 => (if t108 = t109 then ((verb_Stores.f a0).bind fun t110 => ((tallboyref15_Stores.f a0).bind fun t111 => (if (t110 == t111) = true then ((verb_Shows.f a0).bind fun t112 => ((tallboyref15_Shows.f a0).bind fun t113 => (some (t112 == t113)))) else (none)))) else (none)))) else (none)))
theorem tallboylaw15_VerbNames.mono : ∀ a0 a1 k, LeO (tallboylaw15_VerbNames.f k a0 a1) (tallboylaw15_VerbNames.f (k + 1) a0 a1) := by
 intro a0 a1 k
 unfold tallboylaw15_VerbNames.f
 repeat' first
   | (with_reducible exact tallboyref15_Kind.mono _ _)
   | (with_reducible exact LeO.refl _)
   | (with_reducible exact LeO.none _)
   | (with_reducible refine LeO.ite ?_ ?_)
   | (with_reducible refine LeO.bind ?_ (fun _ => ?_))
   | exact tallboyref15_Kind.mono _ _
   | exact LeO.none _
   | refine LeO.ite ?_ ?_
   | refine LeO.bind ?_ (fun _ => ?_)
set_option maxHeartbeats 8000000 in
set_option maxRecDepth 100000 in
theorem tallboylaw15_VerbNames.calls (k : Nat) (a0 : Int) (a1 : ByteArray) (r : Bool) (w : World) (h : tallboylaw15_VerbNames.f k a0 a1 = some r) :
  Calls Try.prog 3 #[.int .i64 a0, .string a1] w fun e w' => e = .returned (.bool r) ∧ Below w.heap.size w w' := by
 have HB := Aside0.mk (Below.refl w.heap.size w); have H : ((verb_Name.f a0).bind fun t106 => ((tallboyref15_Name.f a0).bind fun t107 => (if t106.toList = t107.toList then ((verb_Kind.f a1).bind fun t108 => ((tallboyref15_Kind.f k a1).bind fun t109 => (if t108 = t109 then ((verb_Stores.f a0).bind fun t110 => ((tallboyref15_Stores.f a0).bind fun t111 => (if (t110 == t111) = true then ((verb_Shows.f a0).bind fun t112 => ((tallboyref15_Shows.f a0).bind fun t113 => (some (t112 == t113)))) else (none)))) else (none)))) else (none)))) = some r := h; clear h; replace H := Option.bind_eq_some_iff.mp H; obtain ⟨t106, A30, H⟩ := H; replace H : ((tallboyref15_Name.f a0).bind fun t107 => (if t106.toList = t107.toList then ((verb_Kind.f a1).bind fun t108 => ((tallboyref15_Kind.f k a1).bind fun t109 => (if t108 = t109 then ((verb_Stores.f a0).bind fun t110 => ((tallboyref15_Stores.f a0).bind fun t111 => (if (t110 == t111) = true then ((verb_Shows.f a0).bind fun t112 => ((tallboyref15_Shows.f a0).bind fun t113 => (some (t112 == t113)))) else (none)))) else (none)))) else (none))) = some r := H; have A3 := Aside0.mk A30; clear A30; replace H := Option.bind_eq_some_iff.mp H; obtain ⟨t107, A40, H⟩ := H; replace H : (if t106.toList = t107.toList then ((verb_Kind.f a1).bind fun t108 => ((tallboyref15_Kind.f k a1).bind fun t109 => (if t108 = t109 then ((verb_Stores.f a0).bind fun t110 => ((tallboyref15_Stores.f a0).bind fun t111 => (if (t110 == t111) = true then ((verb_Shows.f a0).bind fun t112 => ((tallboyref15_Shows.f a0).bind fun t113 => (some (t112 == t113)))) else (none)))) else (none)))) else (none)) = some r := H; have A4 := Aside0.mk A40; clear A40
 by_cases c5 : t106.toList = t107.toList
 ·rw [if_pos c5] at H; have c5b0 : (t106.toList == t107.toList) = true := beq_iff_eq.mpr c5; have c5b1 : (t106.toList != t107.toList) = false := bne_eq_false_iff_eq.mpr c5; clear c5; replace H := Option.bind_eq_some_iff.mp H; obtain ⟨t108, A60, H⟩ := H; replace H : ((tallboyref15_Kind.f k a1).bind fun t109 => (if t108 = t109 then ((verb_Stores.f a0).bind fun t110 => ((tallboyref15_Stores.f a0).bind fun t111 => (if (t110 == t111) = true then ((verb_Shows.f a0).bind fun t112 => ((tallboyref15_Shows.f a0).bind fun t113 => (some (t112 == t113)))) else (none)))) else (none))) = some r := H; have A6 := Aside0.mk A60; clear A60; replace H := Option.bind_eq_some_iff.mp H; obtain ⟨t109, A70, H⟩ := H; replace H : (if t108 = t109 then ((verb_Stores.f a0).bind fun t110 => ((tallboyref15_Stores.f a0).bind fun t111 => (if (t110 == t111) = true then ((verb_Shows.f a0).bind fun t112 => ((tallboyref15_Shows.f a0).bind fun t113 => (some (t112 == t113)))) else (none)))) else (none)) = some r := H; have A7 := Aside0.mk A70; clear A70
  by_cases c8 : t108 = t109
  ·rw [if_pos c8] at H; have c8b0 : (t108 == t109) = true := beq_iff_eq.mpr c8; have c8b1 : (t108 != t109) = false := bne_eq_false_iff_eq.mpr c8; clear c8; replace H := Option.bind_eq_some_iff.mp H; obtain ⟨t110, A90, H⟩ := H; replace H : ((tallboyref15_Stores.f a0).bind fun t111 => (if (t110 == t111) = true then ((verb_Shows.f a0).bind fun t112 => ((tallboyref15_Shows.f a0).bind fun t113 => (some (t112 == t113)))) else (none))) = some r := H; have A9 := Aside0.mk A90; clear A90; replace H := Option.bind_eq_some_iff.mp H; obtain ⟨t111, A100, H⟩ := H; replace H : (if (t110 == t111) = true then ((verb_Shows.f a0).bind fun t112 => ((tallboyref15_Shows.f a0).bind fun t113 => (some (t112 == t113)))) else (none)) = some r := H; have A10 := Aside0.mk A100; clear A100
   by_cases c11 : (t110 == t111) = true
   ·rw [if_pos c11] at H; have c11b0 : (t110 == t111) = true := c11
    (try (have c11b1 : decide (t110 = t111) = true := by simpa using c11))
    (try (have c11b2 : (t110 == t111) = true := by simpa using c11))
    clear c11; replace H := Option.bind_eq_some_iff.mp H; obtain ⟨t112, A120, H⟩ := H; replace H : ((tallboyref15_Shows.f a0).bind fun t113 => (some (t112 == t113))) = some r := H; have A12 := Aside0.mk A120; clear A120; replace H := Option.bind_eq_some_iff.mp H; obtain ⟨t113, A130, H⟩ := H; replace H : (some (t112 == t113)) = some r := H; have A13 := Aside0.mk A130; clear A130; obtain rfl := Option.some.inj H; go_enter Try.func3, Try.ntmps3
    go_wp2_with (first | ((with_reducible refine gate_callee (f := 8) rfl ?_); refine goesL_ (some 6) rfl rfl Try.func8 (by kernel_rfl) rfl #[.int .i64 a0] rfl (by (try simp only [List.map_toArray, List.map_cons, List.map_nil]); first | done | rfl | (simp only [List.length_drop, List.length_take]; rfl)) ?_; (with_reducible refine (verb_Name.calls a0 t106 _ A3.out).mono ?_); rintro e w14 ⟨rfl, hb⟩; refine ⟨_, rfl, ?_⟩; have n0_ := Aside0.mk (below_step (by repeat (first | (with_reducible first | exact HB.out | apply eA | apply eN | apply eD) | exact HB.out)) hb); clear HB; have HB := n0_; clear n0_; (try clear hb); (try clear hb2); (try clear hk); (try clear hi)) | ((with_reducible refine gate_callee (f := 9) rfl ?_); refine goesL_ (some 8) rfl rfl Try.func9 (by kernel_rfl) rfl #[.int .i64 a0] rfl (by (try simp only [List.map_toArray, List.map_cons, List.map_nil]); first | done | rfl | (simp only [List.length_drop, List.length_take]; rfl)) ?_; (with_reducible refine (tallboyref15_Name.calls a0 t107 _ A4.out).mono ?_); rintro e w15 ⟨rfl, hb⟩; refine ⟨_, rfl, ?_⟩; have n0_ := Aside0.mk (below_step (by repeat (first | (with_reducible first | exact HB.out | apply eA | apply eN | apply eD) | exact HB.out)) hb); clear HB; have HB := n0_; clear n0_; (try clear hb); (try clear hb2); (try clear hk); (try clear hi)) | (go_at_call 10; (with_reducible refine (verb_Kind.calls a1 t108 _ A6.out).mono ?_); rintro e w16 ⟨rfl, hb⟩; have n0_ := Aside0.mk (below_step (by repeat (first | (with_reducible first | exact HB.out | apply eA | apply eN | apply eD) | exact HB.out)) hb); clear HB; have HB := n0_; clear n0_; (try clear hb); (try clear hb2); (try clear hk); (try clear hi)) | (go_at_call 11; (with_reducible refine (tallboyref15_Kind.calls k a1 t109 _ A7.out).mono ?_); rintro e w17 ⟨rfl, hb⟩; have n0_ := Aside0.mk (below_step (by repeat (first | (with_reducible first | exact HB.out | apply eA | apply eN | apply eD) | exact HB.out)) hb); clear HB; have HB := n0_; clear n0_; (try clear hb); (try clear hb2); (try clear hk); (try clear hi)) | (go_at_call 12; (with_reducible refine (verb_Stores.calls a0 t110 _ A9.out).mono ?_); rintro e w' ⟨rfl, ⟨nd, rfl⟩⟩) | (go_at_call 13; (with_reducible refine (tallboyref15_Stores.calls a0 t111 _ A10.out).mono ?_); rintro e w' ⟨rfl, ⟨nd, rfl⟩⟩) | (go_at_call 14; (with_reducible refine (verb_Shows.calls a0 t112 _ A12.out).mono ?_); rintro e w' ⟨rfl, ⟨nd, rfl⟩⟩) | (go_at_call 15; (with_reducible refine (tallboyref15_Shows.calls a0 t113 _ A13.out).mono ?_); rintro e w' ⟨rfl, ⟨nd, rfl⟩⟩))
    go_ret
    exact ⟨by first | rfl | (simp [errW_none, errW_some] <;> rfl) | (simp [*, errW_none, errW_some] <;> rfl), by repeat (first | (with_reducible first | exact HB.out | apply eA | apply eN | apply eD) | exact HB.out)⟩
   ·rw [if_neg c11] at H; exact absurd H (by simp)
  ·rw [if_neg c8] at H; exact absurd H (by simp)
 ·rw [if_neg c5] at H; exact absurd H (by simp)

/-- THE ONE PURE STATEMENT of tallboylaw15_VerbNames: yours. -/
def tallboylaw15_VerbNames.Pure : Prop := ∀ (a0 : Int) (a1 : ByteArray), (Lit.int .i64 a0).wf = true → a1.size ≤ 140737488351232 → ∃ k, tallboylaw15_VerbNames.f k a0 a1 = some true
theorem tallboylaw15_VerbNames.walk (P : tallboylaw15_VerbNames.Pure) (a0 : Int) (a1 : ByteArray) (w : World) (w0 : (Lit.int .i64 a0).wf = true) (w1 : a1.size ≤ 140737488351232) :
  Calls Try.prog 3 #[.int .i64 a0, .string a1] w fun e w' => e = .returned (.bool true) ∧ Below w.heap.size w w' := by
 obtain ⟨k, h⟩ := P a0 a1 w0 w1; refine (tallboylaw15_VerbNames.calls k a0 a1 true w h).mono ?_
 rintro e w' ⟨rfl, hd⟩
 exact ⟨rfl, hd⟩

/-! ### tallboylaw15_Great: function 16 -/
def tallboylaw15_Great.l0 : Nat → Int → Int → Int → List ByteArray → Int → Int → ByteArray → Int → Int → Bool → Option (Bool)
 | 0, _, _, _, _, _, _, _, _, _, _ => none
 | k + 1, x3, x4, x115000, x115001, x115002, x115003, x115004, x115005, x115006, x115007 => if x4 < (x115001.length : Int) then (if x3 < 10000 then (if 0 ≤ x4 then (tallboylaw15_Great.l0 k (wrap64 (x3 + ((rdOf ByteArray.empty x115001 x4).size : Int))) (wrap64 (x4 + 1)) x115000 x115001 x115002 x115003 x115004 x115005 x115006 x115007) else (none)) else (if x3 ≥ 10000 then (some true) else (some (decide ((x115001.length : Int) > 100))))) else (if x3 ≥ 10000 then (some true) else (some (decide ((x115001.length : Int) > 100))))
def tallboylaw15_Great.f (k : Nat) (a0_0 : Int) (l0_1 : List ByteArray) (a0_2 : Int) (a0_3 : Int) (a0_4 : ByteArray) (a0_5 : Int) (a0_6 : Int) (a0_7 : Bool) : Option (Bool) := tallboylaw15_Great.l0 k (a0_4.size : Int) 0 a0_0 l0_1 a0_2 a0_3 a0_4 a0_5 a0_6 a0_7
theorem tallboylaw15_Great.mono_l : ∀ k, (∀ y0 y1 y2 y3 y4 y5 y6 y7 y8 y9, LeO (tallboylaw15_Great.l0 k y0 y1 y2 y3 y4 y5 y6 y7 y8 y9) (tallboylaw15_Great.l0 (k + 1) y0 y1 y2 y3 y4 y5 y6 y7 y8 y9))
 | 0 => fun _ _ _ _ _ _ _ _ _ _ r h => by simp [tallboylaw15_Great.l0] at h
 | k + 1 => by
  have ih0 := tallboylaw15_Great.mono_l k
  ·intro y0 y1 y2 y3 y4 y5 y6 y7 y8 y9
   unfold tallboylaw15_Great.l0
   repeat' first
   | (with_reducible exact ih0 _ _ _ _ _ _ _ _ _ _)
   | (with_reducible exact LeO.refl _)
   | (with_reducible exact LeO.none _)
   | (with_reducible refine LeO.ite ?_ ?_)
   | (with_reducible refine LeO.bind ?_ (fun _ => ?_))
   | exact ih0 _ _ _ _ _ _ _ _ _ _
   | exact LeO.none _
   | refine LeO.ite ?_ ?_
   | refine LeO.bind ?_ (fun _ => ?_)
theorem tallboylaw15_Great.mono : ∀ a0 a1 a2 a3 a4 a5 a6 a7 k, LeO (tallboylaw15_Great.f k a0 a1 a2 a3 a4 a5 a6 a7) (tallboylaw15_Great.f (k + 1) a0 a1 a2 a3 a4 a5 a6 a7) := by
 intro a0 a1 a2 a3 a4 a5 a6 a7 k
 have ih0 := tallboylaw15_Great.mono_l k; unfold tallboylaw15_Great.f
 repeat' first
   | (with_reducible exact ih0 _ _ _ _ _ _ _ _ _ _)
   | (with_reducible exact LeO.refl _)
   | (with_reducible exact LeO.none _)
   | (with_reducible refine LeO.ite ?_ ?_)
   | (with_reducible refine LeO.bind ?_ (fun _ => ?_))
   | exact ih0 _ _ _ _ _ _ _ _ _ _
   | exact LeO.none _
   | refine LeO.ite ?_ ?_
   | refine LeO.bind ?_ (fun _ => ?_)
set_option maxHeartbeats 8000000 in
set_option maxRecDepth 100000 in
theorem tallboylaw15_Great.calls (k : Nat) (a0_0 : Int) (A0_1 : Option Addr) (c0_1 : Nat) (l0_1 : List ByteArray) (a0_2 : Int) (a0_3 : Int) (a0_4 : ByteArray) (a0_5 : Int) (a0_6 : Int) (a0_7 : Bool) (r : Bool) (w : World) (hr0_1 : Kd.C Kd.string w A0_1 l0_1.length l0_1) (hc0_1 : l0_1.length ≤ c0_1) (h : tallboylaw15_Great.f k a0_0 l0_1 a0_2 a0_3 a0_4 a0_5 a0_6 a0_7 = some r) :
  Calls Try.prog 16 #[.agg #[.int .i64 a0_0, .slice A0_1 l0_1.length c0_1, .int .u32 a0_2, .int .i64 a0_3, .string a0_4, .int .u64 a0_5, .int .u64 a0_6, .bool a0_7]] w fun e w' => e = .returned (.bool r) ∧ Below w.heap.size w w' := by
 have hu30 := Try.underlying30; have HR0_1 := Aside0.mk hr0_1; have HC0_1 := Aside0.mk hc0_1; clear hr0_1 hc0_1; have HB := Aside0.mk (Below.refl w.heap.size w); have H : (tallboylaw15_Great.l0 k (a0_4.size : Int) 0 a0_0 l0_1 a0_2 a0_3 a0_4 a0_5 a0_6 a0_7) = some r := h; clear h; have H' := Aside0.mk H; clear H; go_enter Try.func16, Try.ntmps16
 go_wp2_with (first | ((with_reducible refine gate_dst (N := 1) rfl ?_); (try (refine gate_guard (by rfl) ?_; dsimp only)); refine box_event ?hg (N := 1) ?hd (cs := #[.int .i64 a0_0, .slice A0_1 l0_1.length c0_1, .int .u32 a0_2, .int .i64 a0_3, .string a0_4, .int .u64 a0_5, .int .u64 a0_6, .bool a0_7]) (t := 30) ?hr ?_; (case hd => rfl); (case hg => rfl); (case hr => first | (go_simp; done) | (go_simp; rfl)); intro gb114 hg w2 hbox hb; have n0_ := Aside0.mk (below_step (by repeat (first | (with_reducible first | exact HB.out | apply eA | apply eN | apply eD) | exact HB.out)) hb); have n1_ := Aside0.mk (hbox); have n2_ := Aside0.mk ((by rw [hg]; exact (below_size (by repeat (first | (with_reducible first | exact HB.out | apply eA | apply eN | apply eD) | exact HB.out))) : w.heap.size ≤ gb114)); have n3_ := n2_; clear HB; have HB := n0_; have BK114 := n1_; have GW114 := n2_; have GE114 := n3_; clear n0_ n1_ n2_ n3_; clear hb hbox hg; obtain ⟨hcz3_0, hcz3_1, hcz3_2, hcz3_3, hcz3_4, hcz3_5, hcz3_6, hcz3_7, hfz3_0, hfz3_1, hfz3_2, hfz3_3, hfz3_4, hfz3_5, hfz3_6, hfz3_7⟩ := c8 BK114.out))
 go_loopg [3, 4] k (fun kq v3 v4 w' => ∃ (x3_1 : Int) (x4_1 : Int), v3 = .int .i64 x3_1 ∧ v4 = .int .i64 x4_1 ∧ Aside0 (tallboylaw15_Great.l0 kq x3_1 x4_1 a0_0 l0_1 a0_2 a0_3 a0_4 a0_5 a0_6 a0_7 = some r) ∧ Aside0 (kq ≤ k) ∧ Aside0 (w'.heap[gb114]? = some (.cells #[.int .i64 a0_0, (.slice A0_1 l0_1.length c0_1), .int .u32 a0_2, .int .i64 a0_3, .string a0_4, .int .u64 a0_5, .int .u64 a0_6, .bool a0_7] 30 (0, 0))) ∧ Aside0 (Below w.heap.size w w'))
 case atStart => exact ⟨((a0_4.size : Int)), (0), (by first | rfl | (simp; done) | (simp [*]; done)), (by first | rfl | (simp; done) | (simp [*]; done)), H', ⟨Nat.le_refl _⟩, ⟨by (with_reducible repeat (first | refine bN ?_ _ | refine bD ?_ | refine bA ?_ _)); exact BK114.out⟩, ⟨by repeat (first | (with_reducible first | exact HB.out | apply eA | apply eN | apply eD | refine eS ?_ GE114.out) | exact HB.out)⟩⟩
 case round =>
  clear H'; (try clear c1); (try clear p2); (try clear hcz3_0 hcz3_1 hcz3_2 hcz3_3 hcz3_4 hcz3_5 hcz3_6 hcz3_7); (try clear hfz3_0 hfz3_1 hfz3_2 hfz3_3 hfz3_4 hfz3_5 hfz3_6 hfz3_7); obtain ⟨x3_1, x4_1, rfl, rfl, HA, HK1, BK114, HB⟩ := hrel; cases gk with
  | zero => exact absurd HA.out (by simp [tallboylaw15_Great.l0])
  | succ k1 =>
   have H := HA.out; clear HA; simp only [tallboylaw15_Great.l0] at H
   by_cases c4 : x4_1 < (l0_1.length : Int)
   ·rw [if_pos c4] at H; have c4b0 : decide (x4_1 < (l0_1.length : Int)) = true := decide_eq_true c4; clear c4
    by_cases c5 : x3_1 < 10000
    ·rw [if_pos c5] at H; have c5b0 : decide (x3_1 < 10000) = true := decide_eq_true c5; clear c5
     by_cases c6 : 0 ≤ x4_1
     ·rw [if_pos c6] at H; have c6b0 : decide (0 ≤ x4_1) = true := decide_eq_true c6; clear c6; have H' := Aside0.mk H; clear H; obtain ⟨hcz7_0, hcz7_1, hcz7_2, hcz7_3, hcz7_4, hcz7_5, hcz7_6, hcz7_7, hfz7_0, hfz7_1, hfz7_2, hfz7_3, hfz7_4, hfz7_5, hfz7_6, hfz7_7⟩ := c8 BK114.out; have p115 : 0 ≤ (x4_1 : Int) := of_decide_eq_true (by first | (with_reducible assumption) | assumption); have q115 : x4_1 < (l0_1.length : Int) := of_decide_eq_true (by first | (with_reducible assumption) | assumption)
      obtain ⟨ad115, e115, hx115_0⟩ := Kd.at_string HR0_1.out x4_1 p115 q115; cases e115; replace hx115_0 := (HB.out.cell (World.block_lt_of_cell? w _ hx115_0)).trans hx115_0; replace p115 := eq_true p115; replace q115 := eq_true q115; go_wp2
      go_roundg k1
      case measure => have := HK1.out; omega
      case rel => exact ⟨(wrap64 (x3_1 + ((rdOf ByteArray.empty l0_1 x4_1).size : Int))), (wrap64 (x4_1 + 1)), (by first | rfl | (simp; done) | (simp [*]; done)), (by first | rfl | (simp; done) | (simp [*]; done)), H', ⟨by have := HK1.out; omega⟩, ⟨by (with_reducible repeat (first | refine bN ?_ _ | refine bD ?_ | refine bA ?_ _)); exact BK114.out⟩, ⟨by repeat (first | (with_reducible first | exact HB.out | apply eA | apply eN | apply eD | refine eS ?_ GE114.out) | exact HB.out)⟩⟩
     ·rw [if_neg c6] at H; exact absurd H (by simp)
    ·rw [if_neg c5] at H; have c5b0 : decide (x3_1 < 10000) = false := decide_eq_false c5; clear c5
     by_cases c8 : x3_1 ≥ 10000
     ·rw [if_pos c8] at H; have c8b0 : decide (10000 ≤ x3_1) = true := decide_eq_true c8; clear c8; obtain rfl := Option.some.inj H; obtain ⟨hcz9_0, hcz9_1, hcz9_2, hcz9_3, hcz9_4, hcz9_5, hcz9_6, hcz9_7, hfz9_0, hfz9_1, hfz9_2, hfz9_3, hfz9_4, hfz9_5, hfz9_6, hfz9_7⟩ := c8 BK114.out; go_wp2; go_ret
      exact ⟨by first | rfl | (simp [errW_none, errW_some] <;> rfl) | (simp [*, errW_none, errW_some] <;> rfl), by repeat (first | (with_reducible first | exact HB.out | apply eA | apply eN | apply eD | refine eS ?_ GE114.out) | exact HB.out)⟩
     ·rw [if_neg c8] at H; have c8b0 : decide (10000 ≤ x3_1) = false := decide_eq_false c8; clear c8; obtain rfl := Option.some.inj H; obtain ⟨hcz10_0, hcz10_1, hcz10_2, hcz10_3, hcz10_4, hcz10_5, hcz10_6, hcz10_7, hfz10_0, hfz10_1, hfz10_2, hfz10_3, hfz10_4, hfz10_5, hfz10_6, hfz10_7⟩ := c8 BK114.out; go_wp2; go_ret
      exact ⟨by first | rfl | (simp [errW_none, errW_some] <;> rfl) | (simp [*, errW_none, errW_some] <;> rfl), by repeat (first | (with_reducible first | exact HB.out | apply eA | apply eN | apply eD | refine eS ?_ GE114.out) | exact HB.out)⟩
   ·rw [if_neg c4] at H; have c4b0 : decide (x4_1 < (l0_1.length : Int)) = false := decide_eq_false c4; clear c4
    by_cases c11 : x3_1 ≥ 10000
    ·rw [if_pos c11] at H; have c11b0 : decide (10000 ≤ x3_1) = true := decide_eq_true c11; clear c11; obtain rfl := Option.some.inj H; obtain ⟨hcz12_0, hcz12_1, hcz12_2, hcz12_3, hcz12_4, hcz12_5, hcz12_6, hcz12_7, hfz12_0, hfz12_1, hfz12_2, hfz12_3, hfz12_4, hfz12_5, hfz12_6, hfz12_7⟩ := c8 BK114.out; go_wp2; go_ret
     exact ⟨by first | rfl | (simp [errW_none, errW_some] <;> rfl) | (simp [*, errW_none, errW_some] <;> rfl), by repeat (first | (with_reducible first | exact HB.out | apply eA | apply eN | apply eD | refine eS ?_ GE114.out) | exact HB.out)⟩
    ·rw [if_neg c11] at H; have c11b0 : decide (10000 ≤ x3_1) = false := decide_eq_false c11; clear c11; obtain rfl := Option.some.inj H; obtain ⟨hcz13_0, hcz13_1, hcz13_2, hcz13_3, hcz13_4, hcz13_5, hcz13_6, hcz13_7, hfz13_0, hfz13_1, hfz13_2, hfz13_3, hfz13_4, hfz13_5, hfz13_6, hfz13_7⟩ := c8 BK114.out; go_wp2; go_ret
     exact ⟨by first | rfl | (simp [errW_none, errW_some] <;> rfl) | (simp [*, errW_none, errW_some] <;> rfl), by repeat (first | (with_reducible first | exact HB.out | apply eA | apply eN | apply eD | refine eS ?_ GE114.out) | exact HB.out)⟩

/-! ### verb_ends: function 27 -/
def verb_ends.j0 : Nat → Bool → Option (Bool)
 | 0, _ => none
 | k + 1, x4 => if x4 = true then (some true) else (some false)
def verb_ends.f (k : Nat) (a0 : Int) : Option (Bool) := if a0 = 3 then (verb_ends.j0 k (a0 == 3)) else (if a0 = 4 then (verb_ends.j0 k (a0 == 4)) else (if a0 = 14 then (verb_ends.j0 k (a0 == 14)) else (if a0 = 5 then (verb_ends.j0 k (a0 == 5)) else (if a0 = 6 then (verb_ends.j0 k (a0 == 6)) else (if a0 = 7 then (verb_ends.j0 k (a0 == 7)) else (verb_ends.j0 k (a0 == 10)))))))
theorem verb_ends.mono_l : ∀ k, (∀ y0, LeO (verb_ends.j0 k y0) (verb_ends.j0 (k + 1) y0))
 | 0 => fun _ r h => by simp [verb_ends.j0] at h
 | k + 1 => by
  have ih0 := verb_ends.mono_l k
  ·intro y0
   unfold verb_ends.j0
   repeat' first
   | (with_reducible exact ih0 _)
   | (with_reducible exact LeO.refl _)
   | (with_reducible exact LeO.none _)
   | (with_reducible refine LeO.ite ?_ ?_)
   | (with_reducible refine LeO.bind ?_ (fun _ => ?_))
   | exact ih0 _
   | exact LeO.none _
   | refine LeO.ite ?_ ?_
   | refine LeO.bind ?_ (fun _ => ?_)
theorem verb_ends.mono : ∀ a0 k, LeO (verb_ends.f k a0) (verb_ends.f (k + 1) a0) := by
 intro a0 k
 have ih0 := verb_ends.mono_l k; unfold verb_ends.f
 repeat' first
   | (with_reducible exact ih0 _)
   | (with_reducible exact LeO.refl _)
   | (with_reducible exact LeO.none _)
   | (with_reducible refine LeO.ite ?_ ?_)
   | (with_reducible refine LeO.bind ?_ (fun _ => ?_))
   | exact ih0 _
   | exact LeO.none _
   | refine LeO.ite ?_ ?_
   | refine LeO.bind ?_ (fun _ => ?_)
set_option maxHeartbeats 8000000 in
set_option maxRecDepth 100000 in
theorem verb_ends.calls (k : Nat) (a0 : Int) (r : Bool) (w : World) (h : verb_ends.f k a0 = some r) :
  Calls Try.prog 27 #[.int .i64 a0] w fun e w' => e = .returned (.bool r) ∧ Drawn0 w w' := by
 have H : (if a0 = 3 then (verb_ends.j0 k (a0 == 3)) else (if a0 = 4 then (verb_ends.j0 k (a0 == 4)) else (if a0 = 14 then (verb_ends.j0 k (a0 == 14)) else (if a0 = 5 then (verb_ends.j0 k (a0 == 5)) else (if a0 = 6 then (verb_ends.j0 k (a0 == 6)) else (if a0 = 7 then (verb_ends.j0 k (a0 == 7)) else (verb_ends.j0 k (a0 == 10)))))))) = some r := h; clear h; have HC2 := Aside0.mk H; clear H; go_enter Try.func27, Try.ntmps27
 go_upto_if 4 with (fail)
 go_cut [4] (fun v4 wc => ∃ (kq : Nat) (x4_1 : Bool), v4 = .bool x4_1 ∧ Aside0 (verb_ends.j0 kq x4_1 = some r) ∧ Aside0 (kq ≤ k) ∧ Drawn0 w wc)
 case first =>
  have H := HC2.out; clear HC2
  by_cases c3 : a0 = 3
  ·rw [if_pos c3] at H; have c3b0 : (a0 == 3) = true := beq_iff_eq.mpr c3; have c3b1 : (a0 != 3) = false := bne_eq_false_iff_eq.mpr c3; clear c3
   (first | rw [c3b0] | (simp only [i64_w, i32_w]; rw [c3b0]) | skip)
   have H' := Aside0.mk H; clear H; go_wp2
   go_meet
   case rel => exact ⟨_, ((a0 == 3)), (by first | rfl | (simp; done) | (simp [*]; done)), H', ⟨by first | omega | exact Nat.le_refl _⟩, by repeat (first | exact Drawn0.refl _ | apply Drawn0.step)⟩
  ·rw [if_neg c3] at H; have c3b0 : (a0 == 3) = false := beq_eq_false_iff_ne.mpr c3; have c3b1 : (a0 != 3) = true := bne_iff_ne.mpr c3
   (first | rw [c3b0] | (simp only [i64_w, i32_w]; rw [c3b0]) | skip)
   by_cases c4 : a0 = 4
   ·rw [if_pos c4] at H; have c4b0 : (a0 == 4) = true := beq_iff_eq.mpr c4; have c4b1 : (a0 != 4) = false := bne_eq_false_iff_eq.mpr c4; clear c4; have H' := Aside0.mk H; clear H; go_wp2
    go_meet
    case rel => exact ⟨_, ((a0 == 4)), (by first | rfl | (simp; done) | (simp [*]; done)), H', ⟨by first | omega | exact Nat.le_refl _⟩, by repeat (first | exact Drawn0.refl _ | apply Drawn0.step)⟩
   ·rw [if_neg c4] at H; have c4b0 : (a0 == 4) = false := beq_eq_false_iff_ne.mpr c4; have c4b1 : (a0 != 4) = true := bne_iff_ne.mpr c4
    by_cases c5 : a0 = 14
    ·rw [if_pos c5] at H; have c5b0 : (a0 == 14) = true := beq_iff_eq.mpr c5; have c5b1 : (a0 != 14) = false := bne_eq_false_iff_eq.mpr c5; clear c5; have H' := Aside0.mk H; clear H; go_wp2
     go_meet
     case rel => exact ⟨_, ((a0 == 14)), (by first | rfl | (simp; done) | (simp [*]; done)), H', ⟨by first | omega | exact Nat.le_refl _⟩, by repeat (first | exact Drawn0.refl _ | apply Drawn0.step)⟩
    ·rw [if_neg c5] at H; have c5b0 : (a0 == 14) = false := beq_eq_false_iff_ne.mpr c5; have c5b1 : (a0 != 14) = true := bne_iff_ne.mpr c5
     by_cases c6 : a0 = 5
     ·rw [if_pos c6] at H; have c6b0 : (a0 == 5) = true := beq_iff_eq.mpr c6; have c6b1 : (a0 != 5) = false := bne_eq_false_iff_eq.mpr c6; clear c6; have H' := Aside0.mk H; clear H; go_wp2
      go_meet
      case rel => exact ⟨_, ((a0 == 5)), (by first | rfl | (simp; done) | (simp [*]; done)), H', ⟨by first | omega | exact Nat.le_refl _⟩, by repeat (first | exact Drawn0.refl _ | apply Drawn0.step)⟩
     ·rw [if_neg c6] at H; have c6b0 : (a0 == 5) = false := beq_eq_false_iff_ne.mpr c6; have c6b1 : (a0 != 5) = true := bne_iff_ne.mpr c6
      by_cases c7 : a0 = 6
      ·rw [if_pos c7] at H; have c7b0 : (a0 == 6) = true := beq_iff_eq.mpr c7; have c7b1 : (a0 != 6) = false := bne_eq_false_iff_eq.mpr c7; clear c7; have H' := Aside0.mk H; clear H; go_wp2
       go_meet
       case rel => exact ⟨_, ((a0 == 6)), (by first | rfl | (simp; done) | (simp [*]; done)), H', ⟨by first | omega | exact Nat.le_refl _⟩, by repeat (first | exact Drawn0.refl _ | apply Drawn0.step)⟩
      ·rw [if_neg c7] at H; have c7b0 : (a0 == 6) = false := beq_eq_false_iff_ne.mpr c7; have c7b1 : (a0 != 6) = true := bne_iff_ne.mpr c7
       by_cases c8 : a0 = 7
       ·rw [if_pos c8] at H; have c8b0 : (a0 == 7) = true := beq_iff_eq.mpr c8; have c8b1 : (a0 != 7) = false := bne_eq_false_iff_eq.mpr c8; clear c8; have H' := Aside0.mk H; clear H; go_wp2
        go_meet
        case rel => exact ⟨_, ((a0 == 7)), (by first | rfl | (simp; done) | (simp [*]; done)), H', ⟨by first | omega | exact Nat.le_refl _⟩, by repeat (first | exact Drawn0.refl _ | apply Drawn0.step)⟩
       ·rw [if_neg c8] at H; have c8b0 : (a0 == 7) = false := beq_eq_false_iff_ne.mpr c8; have c8b1 : (a0 != 7) = true := bne_iff_ne.mpr c8; have H' := Aside0.mk H; clear H; go_wp2
        go_meet
        case rel => exact ⟨_, ((a0 == 10)), (by first | rfl | (simp; done) | (simp [*]; done)), H', ⟨by first | omega | exact Nat.le_refl _⟩, by repeat (first | exact Drawn0.refl _ | apply Drawn0.step)⟩
 case rest =>
  clear HC2; (try clear c2); (try clear p2); (try clear c3); (try clear c3b0); (try clear c3b1); (try clear c4); (try clear c4b0); (try clear c4b1); (try clear c5); (try clear c5b0); (try clear c5b1); (try clear c6); (try clear c6b0); (try clear c6b1); (try clear c7); (try clear c7b0); (try clear c7b1); (try clear c8); (try clear c8b0); (try clear c8b1); obtain ⟨kq, x4_1, rfl, HA, HJ1, ⟨mc1, rfl⟩⟩ := hcut; cases kq with
  | zero => exact absurd HA.out (by simp [verb_ends.j0])
  | succ kj1 =>
   have H := HA.out; clear HA; simp only [verb_ends.j0] at H
   by_cases c9 : x4_1 = true
   ·subst c9; have H1 : (some true) = some r := by rw [if_pos rfl] at H; exact H
    clear H; have H := H1; clear H1; obtain rfl := Option.some.inj H; go_wp2; go_ret
    exact ⟨by first | rfl | (simp; done) | (simp [*]; done), by repeat (first | exact Drawn0.refl _ | apply Drawn0.step)⟩
   ·replace c9 := Bool.eq_false_iff.mpr c9; subst c9; have H1 : (some false) = some r := by rw [if_neg (show ¬ (false = true) by decide)] at H; exact H
    clear H; have H := H1; clear H1; obtain rfl := Option.some.inj H; go_wp2; go_ret
    exact ⟨by first | rfl | (simp; done) | (simp [*]; done), by repeat (first | exact Drawn0.refl _ | apply Drawn0.step)⟩

/-! ### verb_reads: function 28 -/
def verb_reads.f (a0 : Int) : Option (Bool) := if a0 ≥ 1 then (some (decide (a0 ≤ 4))) else (some false)
set_option maxHeartbeats 8000000 in
set_option maxRecDepth 100000 in
theorem verb_reads.calls (a0 : Int) (r : Bool) (w : World) (h : verb_reads.f a0 = some r) :
  Calls Try.prog 28 #[.int .i64 a0] w fun e w' => e = .returned (.bool r) ∧ Drawn0 w w' := by
 have H : (if a0 ≥ 1 then (some (decide (a0 ≤ 4))) else (some false)) = some r := h; clear h
 by_cases c2 : a0 ≥ 1
 ·rw [if_pos c2] at H; have c2b0 : decide (1 ≤ a0) = true := decide_eq_true c2; clear c2; obtain rfl := Option.some.inj H; go_enter Try.func28, Try.ntmps28; go_wp2; go_ret
  exact ⟨by first | rfl | (simp; done) | (simp [*]; done), by repeat (first | exact Drawn0.refl _ | apply Drawn0.step)⟩
 ·rw [if_neg c2] at H; have c2b0 : decide (1 ≤ a0) = false := decide_eq_false c2; clear c2; obtain rfl := Option.some.inj H; go_enter Try.func28, Try.ntmps28; go_wp2; go_ret
  exact ⟨by first | rfl | (simp; done) | (simp [*]; done), by repeat (first | exact Drawn0.refl _ | apply Drawn0.step)⟩

/-! ### verb_keys: function 31 -/
def verb_keys.f (a0 : Int) (a1 : Int) : Option (Bool) := (verb_reads.f a0).bind fun t116 => (if t116 = true then (if a1 ≥ 1 then (some (decide (a1 ≤ 8))) else (some false)) else (if a0 = 15 then (some (a1 == 0)) else (some (a1 == 1))))
set_option maxHeartbeats 8000000 in
set_option maxRecDepth 100000 in
theorem verb_keys.calls (a0 : Int) (a1 : Int) (r : Bool) (w : World) (h : verb_keys.f a0 a1 = some r) :
  Calls Try.prog 31 #[.int .i64 a0, .int .i64 a1] w fun e w' => e = .returned (.bool r) ∧ Drawn0 w w' := by
 have H : ((verb_reads.f a0).bind fun t116 => (if t116 = true then (if a1 ≥ 1 then (some (decide (a1 ≤ 8))) else (some false)) else (if a0 = 15 then (some (a1 == 0)) else (some (a1 == 1))))) = some r := h; clear h; replace H := Option.bind_eq_some_iff.mp H; obtain ⟨t116, A30, H⟩ := H; replace H : (if t116 = true then (if a1 ≥ 1 then (some (decide (a1 ≤ 8))) else (some false)) else (if a0 = 15 then (some (a1 == 0)) else (some (a1 == 1)))) = some r := H; have A3 := Aside0.mk A30; clear A30
 by_cases c4 : t116 = true
 ·subst c4; have H1 : (if a1 ≥ 1 then (some (decide (a1 ≤ 8))) else (some false)) = some r := by rw [if_pos rfl] at H; exact H
  clear H; have H := H1; clear H1
  by_cases c5 : a1 ≥ 1
  ·rw [if_pos c5] at H; have c5b0 : decide (1 ≤ a1) = true := decide_eq_true c5; clear c5; obtain rfl := Option.some.inj H; go_enter Try.func31, Try.ntmps31
   go_wp2_with (first | ((with_reducible refine gate_callee (f := 28) rfl ?_); refine goesL_ (some 7) rfl rfl Try.func28 (by kernel_rfl) rfl #[.int .i64 a0] rfl (by (try simp only [List.map_toArray, List.map_cons, List.map_nil]); first | done | rfl | (simp only [List.length_drop, List.length_take]; rfl)) ?_; (with_reducible refine (verb_reads.calls a0 true _ A3.out).mono ?_); rintro e w' ⟨rfl, ⟨nd, rfl⟩⟩; refine ⟨_, rfl, ?_⟩))
   go_ret
   exact ⟨by first | rfl | (simp; done) | (simp [*]; done), by repeat (first | exact Drawn0.refl _ | apply Drawn0.step)⟩
  ·rw [if_neg c5] at H; have c5b0 : decide (1 ≤ a1) = false := decide_eq_false c5; clear c5; obtain rfl := Option.some.inj H; go_enter Try.func31, Try.ntmps31
   go_wp2_with (first | ((with_reducible refine gate_callee (f := 28) rfl ?_); refine goesL_ (some 7) rfl rfl Try.func28 (by kernel_rfl) rfl #[.int .i64 a0] rfl (by (try simp only [List.map_toArray, List.map_cons, List.map_nil]); first | done | rfl | (simp only [List.length_drop, List.length_take]; rfl)) ?_; (with_reducible refine (verb_reads.calls a0 true _ A3.out).mono ?_); rintro e w' ⟨rfl, ⟨nd, rfl⟩⟩; refine ⟨_, rfl, ?_⟩))
   go_ret
   exact ⟨by first | rfl | (simp; done) | (simp [*]; done), by repeat (first | exact Drawn0.refl _ | apply Drawn0.step)⟩
 ·replace c4 := Bool.eq_false_iff.mpr c4; subst c4; have H1 : (if a0 = 15 then (some (a1 == 0)) else (some (a1 == 1))) = some r := by rw [if_neg (show ¬ (false = true) by decide)] at H; exact H
  clear H; have H := H1; clear H1
  by_cases c6 : a0 = 15
  ·rw [if_pos c6] at H; have c6b0 : (a0 == 15) = true := beq_iff_eq.mpr c6; have c6b1 : (a0 != 15) = false := bne_eq_false_iff_eq.mpr c6; clear c6; obtain rfl := Option.some.inj H; go_enter Try.func31, Try.ntmps31
   go_wp2_with (first | ((with_reducible refine gate_callee (f := 28) rfl ?_); refine goesL_ (some 7) rfl rfl Try.func28 (by kernel_rfl) rfl #[.int .i64 a0] rfl (by (try simp only [List.map_toArray, List.map_cons, List.map_nil]); first | done | rfl | (simp only [List.length_drop, List.length_take]; rfl)) ?_; (with_reducible refine (verb_reads.calls a0 false _ A3.out).mono ?_); rintro e w' ⟨rfl, ⟨nd, rfl⟩⟩; refine ⟨_, rfl, ?_⟩))
   go_ret
   exact ⟨by first | rfl | (simp; done) | (simp [*]; done), by repeat (first | exact Drawn0.refl _ | apply Drawn0.step)⟩
  ·rw [if_neg c6] at H; have c6b0 : (a0 == 15) = false := beq_eq_false_iff_ne.mpr c6; have c6b1 : (a0 != 15) = true := bne_iff_ne.mpr c6; obtain rfl := Option.some.inj H; go_enter Try.func31, Try.ntmps31
   go_wp2_with (first | ((with_reducible refine gate_callee (f := 28) rfl ?_); refine goesL_ (some 7) rfl rfl Try.func28 (by kernel_rfl) rfl #[.int .i64 a0] rfl (by (try simp only [List.map_toArray, List.map_cons, List.map_nil]); first | done | rfl | (simp only [List.length_drop, List.length_take]; rfl)) ?_; (with_reducible refine (verb_reads.calls a0 false _ A3.out).mono ?_); rintro e w' ⟨rfl, ⟨nd, rfl⟩⟩; refine ⟨_, rfl, ?_⟩))
   go_ret
   exact ⟨by first | rfl | (simp; done) | (simp [*]; done), by repeat (first | exact Drawn0.refl _ | apply Drawn0.step)⟩

end Go.Proofs.Ytmogojefpjmhkaa.P
