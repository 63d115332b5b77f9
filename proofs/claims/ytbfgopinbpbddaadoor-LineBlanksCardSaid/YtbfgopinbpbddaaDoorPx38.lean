/- Lean functions for the Go functions that the laws of this seat use, and the proofs that the Go code computes them; conditions: the readings that each theorem names. Written by a program. -/
import Derived.Test.YtbfgopinbpbddaaDoorPx0
import Derived.Test.YtbfgopinbpbddaaDoorPx20
import Derived.Test.YtbfgopinbpbddaaDoorPx31
import Derived.Test.YtbfgopinbpbddaaDoorPx35
import Derived.Test.YtbfgopinbpbddaaDoorShort
namespace Go.Proofs.YtbfgopinbpbddaaDoor.P
open Go.RowKit Go.Proofs.YtbfgopinbpbddaaDoorW.PrintWords Go.Proofs.YtbfgopinbpbddaaDoorW.PrintLast Go.Proofs.YtbfgopinbpbddaaDoorW.PrintMore
set_option linter.unusedVariables false
set_option linter.unusedSimpArgs false

/-! ### tallboylaw17_LineBlanks: function 6 -/
mutual
def tallboylaw17_LineBlanks.j0 : Nat → ByteArray → List Int → Bool → Option (Bool)
 | 0, _, _, _ => none
 | k + 1, x0, x1, x17 => if x17 = true then (some true) else (tallboylaw17_LineBlanks.l0 k x0 x1 (⟨#[]⟩ : ByteArray) 0)
def tallboylaw17_LineBlanks.l0 : Nat → ByteArray → List Int → ByteArray → Int → Option (Bool)
 | 0, _, _, _, _ => none
 | k + 1, x0, x1, x5, x6 => if x6 < (x0.size : Int) then (if 0 ≤ x6 then (if (bt x0 x6) = 32 then (tallboylaw17_LineBlanks.j2 k x0 x1 x5 x6 (decide (x6 < (x1.length : Int)))) else (tallboylaw17_LineBlanks.j2 k x0 x1 x5 x6 false)) else (none)) else (if 1 + x5.size ≤ 9223372036854775807 then (if ((⟨#[32]⟩ : ByteArray) ++ x5).size + 1 ≤ 9223372036854775807 then (if ((((⟨#[32]⟩ : ByteArray) ++ x5) ++ (⟨#[32]⟩ : ByteArray)).size : Int) > 160 then ((line_Parse.f k (((⟨#[32]⟩ : ByteArray) ++ x5) ++ (⟨#[32]⟩ : ByteArray))).bind fun bt544 => (some (bt544.1 == 9))) else ((line_Parse.f k x0).bind fun bt557 => ((tallboylaw17_From.f bt557.1 bt557.2.1 bt557.2.2.1 bt557.2.2.2.1 bt557.2.2.2.2.1 bt557.2.2.2.2.2.1 bt557.2.2.2.2.2.2.1 bt557.2.2.2.2.2.2.2.1 bt557.2.2.2.2.2.2.2.2.1 bt557.2.2.2.2.2.2.2.2.2.1 bt557.2.2.2.2.2.2.2.2.2.2).bind fun bt570 => ((line_Parse.f k (((⟨#[32]⟩ : ByteArray) ++ x5) ++ (⟨#[32]⟩ : ByteArray))).bind fun bt583 => ((tallboylaw17_From.f bt583.1 bt583.2.1 bt583.2.2.1 bt583.2.2.2.1 bt583.2.2.2.2.1 bt583.2.2.2.2.2.1 bt583.2.2.2.2.2.2.1 bt583.2.2.2.2.2.2.2.1 bt583.2.2.2.2.2.2.2.2.1 bt583.2.2.2.2.2.2.2.2.2.1 bt583.2.2.2.2.2.2.2.2.2.2).bind fun bt596 => ((tallboylaw17_Same.f k bt570.1 bt570.2.1 bt570.2.2.1 bt570.2.2.2.1 bt570.2.2.2.2.1 bt570.2.2.2.2.2.1 bt570.2.2.2.2.2.2.1 bt570.2.2.2.2.2.2.2.1 bt570.2.2.2.2.2.2.2.2.1 bt570.2.2.2.2.2.2.2.2.2.1 bt570.2.2.2.2.2.2.2.2.2.2 bt596.1 bt596.2.1 bt596.2.2.1 bt596.2.2.2.1 bt596.2.2.2.2.1 bt596.2.2.2.2.2.1 bt596.2.2.2.2.2.2.1 bt596.2.2.2.2.2.2.2.1 bt596.2.2.2.2.2.2.2.2.1 bt596.2.2.2.2.2.2.2.2.2.1 bt596.2.2.2.2.2.2.2.2.2.2).bind fun t609 => (some t609))))))) else (none)) else (none))
def tallboylaw17_LineBlanks.j2 : Nat → ByteArray → List Int → ByteArray → Int → Bool → Option (Bool)
 | 0, _, _, _, _, _ => none
 | k + 1, x0, x1, x5, x6, x33 => if x33 = true then (tallboylaw17_LineBlanks.l1 k x0 x1 x5 x6 0) else (if 0 ≤ x6 then (if x6 ≤ (wrap64 (x6 + 1)) then (if (wrap64 (x6 + 1)) ≤ (x0.size : Int) then (if x5.size + (x0.extract (x6 : Int).toNat ((wrap64 (x6 + 1)) : Int).toNat).size ≤ 9223372036854775807 then (tallboylaw17_LineBlanks.l0 k x0 x1 (x5 ++ (x0.extract (x6 : Int).toNat ((wrap64 (x6 + 1)) : Int).toNat)) (wrap64 (x6 + 1))) else (none)) else (none)) else (none)) else (none))
def tallboylaw17_LineBlanks.l1 : Nat → ByteArray → List Int → ByteArray → Int → Int → Option (Bool)
 | 0, _, _, _, _, _ => none
 | k + 1, x0, x1, x5, x6, x7 => if 0 ≤ x6 then (if x6 < (x1.length : Int) then (if x7 < (wrap64 (Int.tmod (IntKind.u64.wrap (rd x1 x6)) 3)) then (if x5.size + 1 ≤ 9223372036854775807 then (tallboylaw17_LineBlanks.l1 k x0 x1 (x5 ++ (⟨#[32]⟩ : ByteArray)) x6 (wrap64 (x7 + 1))) else (none)) else (if x6 ≤ (wrap64 (x6 + 1)) then (if (wrap64 (x6 + 1)) ≤ (x0.size : Int) then (if x5.size + (x0.extract (x6 : Int).toNat ((wrap64 (x6 + 1)) : Int).toNat).size ≤ 9223372036854775807 then (tallboylaw17_LineBlanks.l0 k x0 x1 (x5 ++ (x0.extract (x6 : Int).toNat ((wrap64 (x6 + 1)) : Int).toNat)) (wrap64 (x6 + 1))) else (none)) else (none)) else (none))) else (none)) else (none)
end
def tallboylaw17_LineBlanks.f (k : Nat) (a0 : ByteArray) (l1 : List Int) : Option (Bool) := (tallboylaw17_works.f k).bind fun t542 => (if t542 = true then (if (a0.size : Int) > 160 then (tallboylaw17_LineBlanks.j0 k a0 l1 true) else (tallboylaw17_LineBlanks.j0 k a0 l1 (decide ((l1.length : Int) > 100)))) else (none))
theorem tallboylaw17_LineBlanks.mono_l : ∀ k, (∀ y0 y1 y2, LeO (tallboylaw17_LineBlanks.j0 k y0 y1 y2) (tallboylaw17_LineBlanks.j0 (k + 1) y0 y1 y2)) ∧ (∀ y0 y1 y2 y3, LeO (tallboylaw17_LineBlanks.l0 k y0 y1 y2 y3) (tallboylaw17_LineBlanks.l0 (k + 1) y0 y1 y2 y3)) ∧ (∀ y0 y1 y2 y3 y4, LeO (tallboylaw17_LineBlanks.j2 k y0 y1 y2 y3 y4) (tallboylaw17_LineBlanks.j2 (k + 1) y0 y1 y2 y3 y4)) ∧ (∀ y0 y1 y2 y3 y4, LeO (tallboylaw17_LineBlanks.l1 k y0 y1 y2 y3 y4) (tallboylaw17_LineBlanks.l1 (k + 1) y0 y1 y2 y3 y4))
 | 0 => ⟨fun _ _ _ r h => by simp [tallboylaw17_LineBlanks.j0] at h, fun _ _ _ _ r h => by simp [tallboylaw17_LineBlanks.l0] at h, fun _ _ _ _ _ r h => by simp [tallboylaw17_LineBlanks.j2] at h, fun _ _ _ _ _ r h => by simp [tallboylaw17_LineBlanks.l1] at h⟩
 | k + 1 => by
  obtain ⟨ih0, ih1, ih2, ih3⟩ := tallboylaw17_LineBlanks.mono_l k; refine ⟨?_, ?_, ?_, ?_⟩
  all_goals intros
  all_goals (first | unfold tallboylaw17_LineBlanks.j0 | unfold tallboylaw17_LineBlanks.l0 | unfold tallboylaw17_LineBlanks.j2 | unfold tallboylaw17_LineBlanks.l1)
  all_goals repeat' first | (with_reducible first | apply ih0 | apply ih1 | apply ih2 | apply ih3 | apply line_Parse.mono | apply tallboylaw17_Same.mono | apply tallboylaw17_works.mono | exact LeO.refl _ | exact LeO.none _ | refine LeO.ite ?_ ?_ | refine LeO.bind ?_ (fun _ => ?_)) | apply ih0 | apply ih1 | apply ih2 | apply ih3 | apply line_Parse.mono | apply tallboylaw17_Same.mono | apply tallboylaw17_works.mono | exact LeO.none _ | refine LeO.ite ?_ ?_ | refine LeO.bind ?_ (fun _ => ?_)
theorem tallboylaw17_LineBlanks.mono : ∀ a0 a1 k, LeO (tallboylaw17_LineBlanks.f k a0 a1) (tallboylaw17_LineBlanks.f (k + 1) a0 a1) := by
 intro a0 a1 k
 obtain ⟨ih0, ih1, ih2, ih3⟩ := tallboylaw17_LineBlanks.mono_l k; unfold tallboylaw17_LineBlanks.f
 repeat' first | (with_reducible first | apply ih0 | apply ih1 | apply ih2 | apply ih3 | apply line_Parse.mono | apply tallboylaw17_Same.mono | apply tallboylaw17_works.mono | exact LeO.refl _ | exact LeO.none _ | refine LeO.ite ?_ ?_ | refine LeO.bind ?_ (fun _ => ?_)) | apply ih0 | apply ih1 | apply ih2 | apply ih3 | apply line_Parse.mono | apply tallboylaw17_Same.mono | apply tallboylaw17_works.mono | exact LeO.none _ | refine LeO.ite ?_ ?_ | refine LeO.bind ?_ (fun _ => ?_)
theorem tallboylaw17_LineBlanks.vf (a : Int) (b c d e f g h i j k : Value) (w : World) : Sem.run Tryd.prog (Instr.field 36 (.agg #[.int .i64 a, b, c, d, e, f, g, h, i, j, k]) 0) w = .ok (.int .i64 a) w := by
  unfold Instr.field asAgg
  simp [go_sem, Tryd.underlying36]
attribute [local go_sem high] tallboylaw17_LineBlanks.vf
set_option maxHeartbeats 8000000 in
set_option maxRecDepth 100000 in
theorem tallboylaw17_LineBlanks.calls (k : Nat) (a0 : ByteArray) (A1 : Option Addr) (c1 : Nat) (l1 : List Int) (r : Bool) (w : World) (hr1 : Kd.C (Kd.int .i64) w A1 l1.length l1) (hc1 : l1.length ≤ c1) (h : tallboylaw17_LineBlanks.f k a0 l1 = some r) (hL : LdS w) :
  Calls Tryd.prog 6 #[.string a0, .slice A1 l1.length c1] w fun e w' => e = .returned (.bool r) ∧ Below w.heap.size w w' := by
 have HL := Aside0.mk hL; clear hL; have HR1 := Aside0.mk hr1; have HC1 := Aside0.mk hc1; clear hr1 hc1; have HB := Aside0.mk (Below.refl w.heap.size w); have H : ((tallboylaw17_works.f k).bind fun t542 => (if t542 = true then (if (a0.size : Int) > 160 then (tallboylaw17_LineBlanks.j0 k a0 l1 true) else (tallboylaw17_LineBlanks.j0 k a0 l1 (decide ((l1.length : Int) > 100)))) else (none))) = some r := h; clear h; replace H := Option.bind_eq_some_iff.mp H; obtain ⟨t542, A30, H⟩ := H; (try dsimp only at H); have A3 := Aside0.mk A30; clear A30
 by_cases c4 : t542 = true
 ·subst c4; rw [if_pos rfl] at H; have HC5 := Aside0.mk H; clear H; go_enter Tryd.func6, Tryd.ntmps6
  go_upto_region 3 with (first | ((with_reducible refine gate_callee (f := 19) rfl ?_); refine goesL_ (some 8) rfl rfl Tryd.func19 (by kernel_rfl) rfl #[] rfl (by (try simp only [List.map_toArray, List.map_cons, List.map_nil]); first | done | rfl | (simp only [List.length_drop, List.length_take]; rfl)) ?_; (with_reducible refine (tallboylaw17_works.calls k  true _ A3.out (by first | exact HL.out | exact LdS.on HL.out (bH HB.out))).mono ?_); rintro e w6 ⟨rfl, hb⟩; refine ⟨_, rfl, ?_⟩; replace HB := rS HB hb; (try clear hb); ))
  (try simp only [Act.put, sA, sB, sC])
  go_cut [17] (fun v17 wc => ∃ (kq : Nat) (x17_4 : Bool), v17 = .bool x17_4 ∧ Aside0 (tallboylaw17_LineBlanks.j0 kq a0 l1 x17_4 = some r) ∧ Aside0 (kq ≤ k) ∧ Aside0 (Below w.heap.size w wc))
  case first =>
   have H := HC5.out; clear HC5
   by_cases c7 : (a0.size : Int) > 160
   ·rw [if_pos c7] at H; have c7b0 : decide (160 < (a0.size : Int)) = true := decide_eq_true c7; have c7b1 : decide (160 < a0.size) = true := decide_eq_true (by omega); clear c7
    (first | rw [c7b0] | (simp only [i64_w, i32_w]; rw [c7b0]) | skip)
    have H' := Aside0.mk H; clear H; go_wp2
    go_meet
    case rel => exact ⟨_, (true), (by first | rfl | (simp; done) | (simp [*]; done)), H', ⟨by first | omega | exact Nat.le_refl _⟩, ⟨bH HB.out⟩⟩
   ·rw [if_neg c7] at H; have c7b0 : decide (160 < (a0.size : Int)) = false := decide_eq_false c7; have c7b1 : decide (160 < a0.size) = false := decide_eq_false (by omega); clear c7
    (first | rw [c7b0] | (simp only [i64_w, i32_w]; rw [c7b0]) | skip)
    have H' := Aside0.mk H; clear H; go_wp2
    go_meet
    case rel => exact ⟨_, (decide ((l1.length : Int) > 100)), (by first | rfl | (simp; done) | (simp [*]; done)), H', ⟨by first | omega | exact Nat.le_refl _⟩, ⟨bH HB.out⟩⟩
  case rest =>
   clear HC5; (try clear c1); (try clear c4); (try clear c7b0); (try clear c7b1); obtain ⟨kq, x17_4, rfl, HA, HJ4, HB⟩ := hcut; cases kq with
   | zero => exact absurd HA.out (by simp [tallboylaw17_LineBlanks.j0])
   | succ kj4 =>
    have H := HA.out; clear HA; simp only [tallboylaw17_LineBlanks.j0] at H
    by_cases c8 : x17_4 = true
    ·subst c8; rw [if_pos rfl] at H; obtain rfl := Option.some.inj H; go_wp2; go_ret
     exact ⟨xR, bH HB.out⟩
    ·replace c8 := Bool.eq_false_iff.mpr c8; subst c8; rw [if_neg (show ¬ (false = true) by decide)] at H; have H' := Aside0.mk H; clear H; go_wp2
     go_loopg [5, 6] kj4 (fun kq v5 v6 w' => ∃ (x5_2 : ByteArray) (x6_2 : Int), v5 = .string x5_2 ∧ v6 = .int .i64 x6_2 ∧ Aside0 (tallboylaw17_LineBlanks.l0 kq a0 l1 x5_2 x6_2 = some r) ∧ Aside0 (kq ≤ kj4) ∧ Aside0 (Below w.heap.size w w'))
     case atStart => exact ⟨((⟨#[]⟩ : ByteArray)), (0), (by first | rfl | (simp; done) | (simp [*]; done)), (by first | rfl | (simp; done) | (simp [*]; done)), H', ⟨Nat.le_refl _⟩, ⟨bH HB.out⟩⟩
     case round =>
      clear H'; (try clear c1); (try clear c4); (try clear c7b0); (try clear c7b1); (try clear c8); obtain ⟨x5_2, x6_2, rfl, rfl, HA, HK2, HB⟩ := hrel; cases gk with
      | zero => exact absurd HA.out (by simp [tallboylaw17_LineBlanks.l0])
      | succ k2 =>
       have H := HA.out; clear HA; simp only [tallboylaw17_LineBlanks.l0] at H
       by_cases c9 : x6_2 < (a0.size : Int)
       ·rw [if_pos c9] at H; have c9b0 : decide (x6_2 < (a0.size : Int)) = true := decide_eq_true c9; clear c9; have HC10 := Aside0.mk H; clear H
        go_upto_region 9 with (fail)
        go_cut [33] (fun v33 wc => ∃ (kq : Nat) (x33_9 : Bool), v33 = .bool x33_9 ∧ Aside0 (tallboylaw17_LineBlanks.j2 kq a0 l1 x5_2 x6_2 x33_9 = some r) ∧ Aside0 (kq ≤ k2) ∧ Aside0 (Below w.heap.size w wc))
        case first =>
         have H := HC10.out; clear HC10
         by_cases c11 : 0 ≤ x6_2
         ·rw [if_pos c11] at H; have c11b0 : decide (0 ≤ x6_2) = true := decide_eq_true c11; clear c11
          (first | rw [c11b0] | (simp only [i64_w, i32_w]; rw [c11b0]) | skip)
          by_cases c13 : (bt a0 x6_2) = 32
          ·rw [if_pos c13] at H; have c13b0 : ((bt a0 x6_2) == 32) = true := beq_iff_eq.mpr c13; have c13b1 : ((bt a0 x6_2) != 32) = false := bne_eq_false_iff_eq.mpr c13; clear c13; have H' := Aside0.mk H; clear H; have p12 : 0 ≤ (x6_2 : Int) := of_decide_eq_true (by first | (with_reducible assumption) | assumption); have q12 : x6_2 < (a0.size : Int) := of_decide_eq_true (by first | (with_reducible assumption) | assumption)
           have hx12 := bt_at a0 x6_2; replace p12 := eq_true p12; replace q12 := eq_true q12; go_wp2
           go_meet
           case rel => exact ⟨_, (decide (x6_2 < (l1.length : Int))), (by first | rfl | (simp; done) | (simp [*]; done)), H', ⟨by have := HJ4.out; have := HK2.out; first | omega | exact Nat.le_refl _⟩, ⟨bH HB.out⟩⟩
          ·rw [if_neg c13] at H; have c13b0 : ((bt a0 x6_2) == 32) = false := beq_eq_false_iff_ne.mpr c13; have c13b1 : ((bt a0 x6_2) != 32) = true := bne_iff_ne.mpr c13; have H' := Aside0.mk H; clear H; have p12 : 0 ≤ (x6_2 : Int) := of_decide_eq_true (by first | (with_reducible assumption) | assumption); have q12 : x6_2 < (a0.size : Int) := of_decide_eq_true (by first | (with_reducible assumption) | assumption)
           have hx12 := bt_at a0 x6_2; replace p12 := eq_true p12; replace q12 := eq_true q12; go_wp2
           go_meet
           case rel => exact ⟨_, (false), (by first | rfl | (simp; done) | (simp [*]; done)), H', ⟨by have := HJ4.out; have := HK2.out; first | omega | exact Nat.le_refl _⟩, ⟨bH HB.out⟩⟩
         ·rw [if_neg c11] at H; exact absurd H (by simp)
        case rest =>
         clear HC10; (try clear c1); (try clear c4); (try clear c7b0); (try clear c7b1); (try clear c8); (try clear c9b0); (try clear c11); (try clear c11b0); (try clear p12); (try clear q12); (try clear hx12); (try clear c13); (try clear c13b0); (try clear c13b1); (try clear p12); (try clear q12); obtain ⟨kq, x33_9, rfl, HA, HJ9, HB⟩ := hcut; cases kq with
         | zero => exact absurd HA.out (by simp [tallboylaw17_LineBlanks.j2])
         | succ kj9 =>
          have H := HA.out; clear HA; simp only [tallboylaw17_LineBlanks.j2] at H
          by_cases c14 : x33_9 = true
          ·subst c14; rw [if_pos rfl] at H; have H' := Aside0.mk H; clear H; go_wp2
           go_loopg [5, 7] kj9 (fun kq v5 v7 w' => ∃ (x5_4 : ByteArray) (x7_4 : Int), v5 = .string x5_4 ∧ v7 = .int .i64 x7_4 ∧ Aside0 (tallboylaw17_LineBlanks.l1 kq a0 l1 x5_4 x6_2 x7_4 = some r) ∧ Aside0 (kq ≤ kj9) ∧ Aside0 (Below w.heap.size w w'))
           case atStart => exact ⟨(x5_2), (0), (by first | rfl | (simp; done) | (simp [*]; done)), (by first | rfl | (simp; done) | (simp [*]; done)), H', ⟨Nat.le_refl _⟩, ⟨bH HB.out⟩⟩
           case round =>
            clear H'; (try clear c1); (try clear c4); (try clear c7b0); (try clear c7b1); (try clear c8); (try clear c9b0); (try clear c11); (try clear c11b0); (try clear p12); (try clear q12); (try clear hx12); (try clear c13); (try clear c13b0); (try clear c13b1); (try clear c14); (try clear p12); (try clear q12); obtain ⟨x5_4, x7_4, rfl, rfl, HA, HK4, HB⟩ := hrel; cases gk with
            | zero => exact absurd HA.out (by simp [tallboylaw17_LineBlanks.l1])
            | succ k4 =>
             have H := HA.out; clear HA; simp only [tallboylaw17_LineBlanks.l1] at H
             by_cases c15 : 0 ≤ x6_2
             ·rw [if_pos c15] at H; have c15b0 : decide (0 ≤ x6_2) = true := decide_eq_true c15; clear c15
              by_cases c16 : x6_2 < (l1.length : Int)
              ·rw [if_pos c16] at H; have c16b0 : decide (x6_2 < (l1.length : Int)) = true := decide_eq_true c16; clear c16
               by_cases c17 : x7_4 < (wrap64 (Int.tmod (IntKind.u64.wrap (rd l1 x6_2)) 3))
               ·rw [if_pos c17] at H; have c17b0 : decide (x7_4 < (wrap64 (Int.tmod (IntKind.u64.wrap (rd l1 x6_2)) 3))) = true := decide_eq_true c17; clear c17
                by_cases c18 : x5_4.size + 1 ≤ 9223372036854775807
                ·rw [if_pos c18] at H; have c18b0 := eq_true c18; have c18b1 : decide (x5_4.size + 1 ≤ 9223372036854775807) = true := decide_eq_true c18
                 try have c18b2 : (9223372036854775807 < x5_4.size + 1) = False := eq_false (Nat.not_lt.2 c18)
                 have H' := Aside0.mk H; clear H; have p543 : 0 ≤ (x6_2 : Int) := of_decide_eq_true (by first | (with_reducible assumption) | assumption); have q543 : x6_2 < (l1.length : Int) := of_decide_eq_true (by first | (with_reducible assumption) | assumption)
                 obtain ⟨ad543, e543, hx543_0⟩ := Kd.at_int HR1.out x6_2 p543 q543; cases e543; replace hx543_0 := (HB.out.cell (World.block_lt_of_cell? w _ hx543_0)).trans hx543_0; replace p543 := eq_true p543; replace q543 := eq_true q543; go_wp2
                 go_roundg k4
                 case measure => have := HJ4.out; have := HK2.out; have := HJ9.out; have := HK4.out; omega
                 case rel => exact ⟨(x5_4 ++ (⟨#[32]⟩ : ByteArray)), (wrap64 (x7_4 + 1)), (by first | rfl | (simp; done) | (simp [*]; done)), (by first | rfl | (simp; done) | (simp [*]; done)), H', ⟨by have := HJ4.out; have := HK2.out; have := HJ9.out; have := HK4.out; omega⟩, ⟨bH HB.out⟩⟩
                ·rw [if_neg c18] at H; exact absurd H (by simp)
               ·rw [if_neg c17] at H; have c17b0 : decide (x7_4 < (wrap64 (Int.tmod (IntKind.u64.wrap (rd l1 x6_2)) 3))) = false := decide_eq_false c17; clear c17; have c19b0 := eq_true (of_decide_eq_true (by first | (with_reducible assumption) | assumption) : 0 ≤ x6_2)
                by_cases c20 : x6_2 ≤ (wrap64 (x6_2 + 1))
                ·rw [if_pos c20] at H; have c20b0 := eq_true c20; have c20b1 : decide (x6_2 ≤ (wrap64 (x6_2 + 1))) = true := decide_eq_true c20
                 by_cases c21 : (wrap64 (x6_2 + 1)) ≤ (a0.size : Int)
                 ·rw [if_pos c21] at H; have c21b0 := eq_true c21; have c21b1 : decide ((wrap64 (x6_2 + 1)) ≤ (a0.size : Int)) = true := decide_eq_true c21
                  by_cases c22 : x5_4.size + (a0.extract (x6_2 : Int).toNat ((wrap64 (x6_2 + 1)) : Int).toNat).size ≤ 9223372036854775807
                  ·rw [if_pos c22] at H; have c22b0 := eq_true c22; have c22b1 : decide (x5_4.size + (a0.extract (x6_2 : Int).toNat ((wrap64 (x6_2 + 1)) : Int).toNat).size ≤ 9223372036854775807) = true := decide_eq_true c22
                   try have c22b2 : (9223372036854775807 < x5_4.size + (a0.extract (x6_2 : Int).toNat ((wrap64 (x6_2 + 1)) : Int).toNat).size) = False := eq_false (Nat.not_lt.2 c22)
                   have H' := Aside0.mk H; clear H; have p543 : 0 ≤ (x6_2 : Int) := of_decide_eq_true (by first | (with_reducible assumption) | assumption); have q543 : x6_2 < (l1.length : Int) := of_decide_eq_true (by first | (with_reducible assumption) | assumption)
                   obtain ⟨ad543, e543, hx543_0⟩ := Kd.at_int HR1.out x6_2 p543 q543; cases e543; replace hx543_0 := (HB.out.cell (World.block_lt_of_cell? w _ hx543_0)).trans hx543_0; replace p543 := eq_true p543; replace q543 := eq_true q543; go_wp2
                   go_roundg k4
                   case measure => have := HJ4.out; have := HK2.out; have := HJ9.out; have := HK4.out; omega
                   case rel => exact ⟨(x5_4 ++ (a0.extract (x6_2 : Int).toNat ((wrap64 (x6_2 + 1)) : Int).toNat)), (wrap64 (x6_2 + 1)), (by first | rfl | (simp; done) | (simp [*]; done)), (by first | rfl | (simp; done) | (simp [*]; done)), H', ⟨by have := HJ4.out; have := HK2.out; have := HJ9.out; have := HK4.out; omega⟩, ⟨bH HB.out⟩⟩
                  ·rw [if_neg c22] at H; exact absurd H (by simp)
                 ·rw [if_neg c21] at H; exact absurd H (by simp)
                ·rw [if_neg c20] at H; exact absurd H (by simp)
              ·rw [if_neg c16] at H; exact absurd H (by simp)
             ·rw [if_neg c15] at H; exact absurd H (by simp)
          ·replace c14 := Bool.eq_false_iff.mpr c14; subst c14; rw [if_neg (show ¬ (false = true) by decide)] at H
           by_cases c23 : 0 ≤ x6_2
           ·rw [if_pos c23] at H; have c23b0 := eq_true c23; have c23b1 : decide (0 ≤ x6_2) = true := decide_eq_true c23; clear c23
            by_cases c24 : x6_2 ≤ (wrap64 (x6_2 + 1))
            ·rw [if_pos c24] at H; have c24b0 := eq_true c24; have c24b1 : decide (x6_2 ≤ (wrap64 (x6_2 + 1))) = true := decide_eq_true c24
             by_cases c25 : (wrap64 (x6_2 + 1)) ≤ (a0.size : Int)
             ·rw [if_pos c25] at H; have c25b0 := eq_true c25; have c25b1 : decide ((wrap64 (x6_2 + 1)) ≤ (a0.size : Int)) = true := decide_eq_true c25
              by_cases c26 : x5_2.size + (a0.extract (x6_2 : Int).toNat ((wrap64 (x6_2 + 1)) : Int).toNat).size ≤ 9223372036854775807
              ·rw [if_pos c26] at H; have c26b0 := eq_true c26; have c26b1 : decide (x5_2.size + (a0.extract (x6_2 : Int).toNat ((wrap64 (x6_2 + 1)) : Int).toNat).size ≤ 9223372036854775807) = true := decide_eq_true c26
               try have c26b2 : (9223372036854775807 < x5_2.size + (a0.extract (x6_2 : Int).toNat ((wrap64 (x6_2 + 1)) : Int).toNat).size) = False := eq_false (Nat.not_lt.2 c26)
               have H' := Aside0.mk H; clear H; go_wp2
               go_roundg kj9
               case measure => have := HJ4.out; have := HK2.out; have := HJ9.out; omega
               case rel => exact ⟨(x5_2 ++ (a0.extract (x6_2 : Int).toNat ((wrap64 (x6_2 + 1)) : Int).toNat)), (wrap64 (x6_2 + 1)), (by first | rfl | (simp; done) | (simp [*]; done)), (by first | rfl | (simp; done) | (simp [*]; done)), H', ⟨by have := HJ4.out; have := HK2.out; have := HJ9.out; omega⟩, ⟨bH HB.out⟩⟩
              ·rw [if_neg c26] at H; exact absurd H (by simp)
             ·rw [if_neg c25] at H; exact absurd H (by simp)
            ·rw [if_neg c24] at H; exact absurd H (by simp)
           ·rw [if_neg c23] at H; exact absurd H (by simp)
       ·rw [if_neg c9] at H; have c9b0 : decide (x6_2 < (a0.size : Int)) = false := decide_eq_false c9; clear c9
        by_cases c27 : 1 + x5_2.size ≤ 9223372036854775807
        ·rw [if_pos c27] at H; have c27b0 := eq_true c27; have c27b1 : decide (1 + x5_2.size ≤ 9223372036854775807) = true := decide_eq_true c27
         try have c27b2 : (9223372036854775807 < 1 + x5_2.size) = False := eq_false (Nat.not_lt.2 c27)
         by_cases c28 : ((⟨#[32]⟩ : ByteArray) ++ x5_2).size + 1 ≤ 9223372036854775807
         ·rw [if_pos c28] at H; have c28b0 := eq_true c28; have c28b1 : decide (((⟨#[32]⟩ : ByteArray) ++ x5_2).size + 1 ≤ 9223372036854775807) = true := decide_eq_true c28
          try have c28b2 : (9223372036854775807 < ((⟨#[32]⟩ : ByteArray) ++ x5_2).size + 1) = False := eq_false (Nat.not_lt.2 c28)
          try (have c28b3 := c28b2; simp only [ByteArray.size_append, show (⟨#[32]⟩ : ByteArray).size = 1 from rfl] at c28b3)
          by_cases c29 : ((((⟨#[32]⟩ : ByteArray) ++ x5_2) ++ (⟨#[32]⟩ : ByteArray)).size : Int) > 160
          ·rw [if_pos c29] at H; have c29b0 : decide (160 < ((((⟨#[32]⟩ : ByteArray) ++ x5_2) ++ (⟨#[32]⟩ : ByteArray)).size : Int)) = true := decide_eq_true c29; have c29b1 : decide (160 < (((⟨#[32]⟩ : ByteArray) ++ x5_2) ++ (⟨#[32]⟩ : ByteArray)).size) = true := decide_eq_true (by omega); have c29b3 : decide (160 < 1 + (x5_2.size : Int) + 1) = true := decide_eq_true (by have h_ := of_decide_eq_true c29b0; simp only [ByteArray.size_append, show (⟨#[32]⟩ : ByteArray).size = 1 from rfl] at h_; omega); have c29b4 := eq_true (of_decide_eq_true c29b3); clear c29; replace H := Option.bind_eq_some_iff.mp H; obtain ⟨⟨t544, t545, t546, t549, t550, t551, t552, t553, t554, t555, t556⟩, A300, H⟩ := H; (try dsimp only at H); have A30 := Aside0.mk A300; clear A300; obtain rfl := Option.some.inj H
           go_wp2_with (first | ((with_reducible refine gate_callee (f := 14) rfl ?_); refine goesL_ (some 61) rfl rfl Tryd.func14 (by kernel_rfl) rfl #[.string (((⟨#[32]⟩ : ByteArray) ++ x5_2) ++ (⟨#[32]⟩ : ByteArray))] rfl (by (try simp only [List.map_toArray, List.map_cons, List.map_nil]); first | done | rfl | (simp only [List.length_drop, List.length_take]; rfl)) ?_; (with_reducible refine (line_Parse.calls k2 (((⟨#[32]⟩ : ByteArray) ++ x5_2) ++ (⟨#[32]⟩ : ByteArray)) t544 t545 t546 t549 t550 t551 t552 t553 t554 t555 t556 _ A30.out (by first | exact HL.out | exact LdS.on HL.out (bH HB.out))).mono ?_); rintro e w31 ⟨v547, rfl, ho0, hb⟩; refine ⟨_, rfl, ?_⟩; have HO548 := Aside0.mk (Kd.R_lower ho0 (below_size (bH HB.out))); replace HB := rS HB hb; (try clear hb); (try clear ho0)))
           go_ret
           exact ⟨xR, bH HB.out⟩
          ·rw [if_neg c29] at H; have c29b0 : decide (160 < ((((⟨#[32]⟩ : ByteArray) ++ x5_2) ++ (⟨#[32]⟩ : ByteArray)).size : Int)) = false := decide_eq_false c29; have c29b1 : decide (160 < (((⟨#[32]⟩ : ByteArray) ++ x5_2) ++ (⟨#[32]⟩ : ByteArray)).size) = false := decide_eq_false (by omega); have c29b3 : decide (160 < 1 + (x5_2.size : Int) + 1) = false := decide_eq_false (by have h_ := of_decide_eq_false c29b0; simp only [ByteArray.size_append, show (⟨#[32]⟩ : ByteArray).size = 1 from rfl] at h_; omega); have c29b4 := eq_false (of_decide_eq_false c29b3); clear c29; replace H := Option.bind_eq_some_iff.mp H; obtain ⟨⟨t557, t558, t559, t562, t563, t564, t565, t566, t567, t568, t569⟩, A320, H⟩ := H; (try dsimp only at H); have A32 := Aside0.mk A320; clear A320; replace H := Option.bind_eq_some_iff.mp H; obtain ⟨⟨t570, t571, t572, t575, t576, t577, t578, t579, t580, t581, t582⟩, A330, H⟩ := H; (try dsimp only at H); have A33 := Aside0.mk A330; clear A330; replace H := Option.bind_eq_some_iff.mp H; obtain ⟨⟨t583, t584, t585, t588, t589, t590, t591, t592, t593, t594, t595⟩, A340, H⟩ := H; (try dsimp only at H); have A34 := Aside0.mk A340; clear A340; replace H := Option.bind_eq_some_iff.mp H; obtain ⟨⟨t596, t597, t598, t601, t602, t603, t604, t605, t606, t607, t608⟩, A350, H⟩ := H
           (try dsimp only at H); have A35 := Aside0.mk A350; clear A350; replace H := Option.bind_eq_some_iff.mp H; obtain ⟨t609, A360, H⟩ := H; (try dsimp only at H); have A36 := Aside0.mk A360; clear A360; obtain rfl := Option.some.inj H
           go_wp2_with (first | ((with_reducible refine gate_callee (f := 14) rfl ?_); refine goesL_ (some 65) rfl rfl Tryd.func14 (by kernel_rfl) rfl #[.string a0] rfl (by (try simp only [List.map_toArray, List.map_cons, List.map_nil]); first | done | rfl | (simp only [List.length_drop, List.length_take]; rfl)) ?_; (with_reducible refine (line_Parse.calls k2 a0 t557 t558 t559 t562 t563 t564 t565 t566 t567 t568 t569 _ A32.out (by first | exact HL.out | exact LdS.on HL.out (bH HB.out))).mono ?_); rintro e w37 ⟨v560, rfl, ho0, hb⟩; refine ⟨_, rfl, ?_⟩; have HO561 := Aside0.mk (Kd.R_lower ho0 (below_size (bH HB.out))); replace HB := rS HB hb; (try clear hb); (try clear ho0); obtain ⟨Ao38, co38, eo38⟩ := Kd.R_slice HO561.out; subst eo38) | ((with_reducible refine gate_callee (f := 13) rfl ?_); refine goesL_ (some 66) rfl rfl Tryd.func13 (by kernel_rfl) rfl #[.agg #[.int .i64 t557, .int .i64 t558, .slice Ao38 t559.length co38, .int .u32 t562, .int .i64 t563, .string t564, .int .u64 t565, .int .u64 t566, .bool t567, .int .i64 t568, .int .i64 t569]] rfl (by (try simp only [List.map_toArray, List.map_cons, List.map_nil]); first | done | rfl | (simp only [List.length_drop, List.length_take]; rfl)) ?_; (with_reducible refine (tallboylaw17_From.calls t557 t558 (fun k_ => some k_ = (.slice Ao38 t559.length co38 : Value).ownBlock) (.slice Ao38 t559.length co38) t559 t562 t563 t564 t565 t566 t567 t568 t569 t570 t571 t572 t575 t576 t577 t578 t579 t580 t581 t582 w _ ?side1 ?side2 A33.out).mono ?_); (case side1 => repeat (first | (with_reducible first | exact HB.out | apply eA | apply eN | apply eD) | exact HB.out)); (case side2 => exact Kd.R_tight rfl HO561.out); rintro e w39 ⟨v573, rfl, ho0, hb, hkp⟩; refine ⟨_, rfl, ?_⟩; have HO574 := Aside0.mk (Kd.R_mono (ok' := fun k_ => True) ho0 (fun k_ hk_ => trivial)); replace HB := Aside0.mk (hb); clear HO561; (try clear hb); (try clear hkp); (try clear ho0)) | ((with_reducible refine gate_callee (f := 14) rfl ?_); refine goesL_ (some 68) rfl rfl Tryd.func14 (by kernel_rfl) rfl #[.string (((⟨#[32]⟩ : ByteArray) ++ x5_2) ++ (⟨#[32]⟩ : ByteArray))] rfl (by (try simp only [List.map_toArray, List.map_cons, List.map_nil]); first | done | rfl | (simp only [List.length_drop, List.length_take]; rfl)) ?_; (with_reducible refine (line_Parse.calls k2 (((⟨#[32]⟩ : ByteArray) ++ x5_2) ++ (⟨#[32]⟩ : ByteArray)) t583 t584 t585 t588 t589 t590 t591 t592 t593 t594 t595 _ A34.out (by first | exact HL.out | exact LdS.on HL.out (bH HB.out))).mono ?_); rintro e w40 ⟨v586, rfl, ho0, hb⟩; refine ⟨_, rfl, ?_⟩; have HO587 := Aside0.mk (Kd.R_lower (Kd.R_new' ho0 (Kd.R_lt (by (with_reducible repeat (first | apply Kd.R_alloc | apply Kd.R_drewN | apply Kd.R_drew)); exact HO574.out))) (below_size (bH HB.out))); replace HO574 := Aside0.mk (Kd.R_elder' (by (with_reducible repeat (first | apply Kd.R_alloc | apply Kd.R_drewN | apply Kd.R_drew)); exact HO574.out) (Kd.R_base ho0) hb); replace HB := rS HB hb; (try clear hb); (try clear ho0); obtain ⟨Ao41, co41, eo41⟩ := Kd.R_slice HO587.out; subst eo41) | ((with_reducible refine gate_callee (f := 13) rfl ?_); refine goesL_ (some 69) rfl rfl Tryd.func13 (by kernel_rfl) rfl #[.agg #[.int .i64 t583, .int .i64 t584, .slice Ao41 t585.length co41, .int .u32 t588, .int .i64 t589, .string t590, .int .u64 t591, .int .u64 t592, .bool t593, .int .i64 t594, .int .i64 t595]] rfl (by (try simp only [List.map_toArray, List.map_cons, List.map_nil]); first | done | rfl | (simp only [List.length_drop, List.length_take]; rfl)) ?_; (with_reducible refine (tallboylaw17_From.calls t583 t584 (fun k_ => some k_ = (.slice Ao41 t585.length co41 : Value).ownBlock) (.slice Ao41 t585.length co41) t585 t588 t589 t590 t591 t592 t593 t594 t595 t596 t597 t598 t601 t602 t603 t604 t605 t606 t607 t608 w _ ?side1 ?side2 A35.out).mono ?_); (case side1 => repeat (first | (with_reducible first | exact HB.out | apply eA | apply eN | apply eD) | exact HB.out)); (case side2 => exact Kd.R_tight rfl HO587.out); rintro e w42 ⟨v599, rfl, ho0, hb, hkp⟩; refine ⟨_, rfl, ?_⟩; have HO600 := Aside0.mk (Kd.R_mono (ok' := fun k_ => some k_ ≠ (v573 : Value).ownBlock) ho0 (fun k_ hk_ => Or.elim hk_ (fun hs_ => fun e_ => (((HO574.out).1 k_ e_.symm).2) hs_) (fun hn_ => (Kd.fresh' (Kd.R_lt (by (with_reducible repeat (first | apply Kd.R_alloc | apply Kd.R_drewN | apply Kd.R_drew)); exact HO574.out)) k_ hn_)))); replace HO574 := Aside0.mk (Kd.R_mono (ok' := fun k_ => some k_ ≠ (v599 : Value).ownBlock) (Kd.R_keptB (HO574.out) hkp (fun k_ hk_ hs_ => (hk_.2) hs_)) (fun k_ hk_ => fun e_ => Or.elim (ho0.1 k_ e_.symm) (fun hs_ => hk_.2.1 hs_) (fun hn_ => Nat.not_le.2 hk_.2.2 hn_))); replace HB := Aside0.mk (hb); clear HO587; (try clear hb); (try clear hkp); (try clear ho0); obtain ⟨Ao43, co43, eo43⟩ := Kd.R_slice HO574.out; subst eo43; obtain ⟨Ao44, co44, eo44⟩ := Kd.R_slice HO600.out; subst eo44) | ((with_reducible refine gate_callee (f := 12) rfl ?_); refine goesL_ (some 70) rfl rfl Tryd.func12 (by kernel_rfl) rfl #[.agg #[.int .i64 t570, .int .i64 t571, .slice Ao43 t572.length co43, .int .u32 t575, .int .i64 t576, .string t577, .int .u64 t578, .int .u64 t579, .bool t580, .int .i64 t581, .int .i64 t582], .agg #[.int .i64 t596, .int .i64 t597, .slice Ao44 t598.length co44, .int .u32 t601, .int .i64 t602, .string t603, .int .u64 t604, .int .u64 t605, .bool t606, .int .i64 t607, .int .i64 t608]] rfl (by (try simp only [List.map_toArray, List.map_cons, List.map_nil]); first | done | rfl | (simp only [List.length_drop, List.length_take]; rfl)) ?_; (with_reducible refine (tallboylaw17_Same.calls k2 t570 t571 _ _ t572 t575 t576 t577 t578 t579 t580 t581 t582 t596 t597 _ _ t598 t601 t602 t603 t604 t605 t606 t607 t608 t609 _ ?side1 ?side2 ?side3 ?side4 A36.out).mono ?_); (case side1 => repeat (first | exact (Kd.R_reads' HO574.out).2.2 | (with_reducible refine Kd.C_alloc ?_ _) | (with_reducible refine Kd.C_drewN ?_ _) | (with_reducible refine Kd.C_drew ?_))); (case side2 => exact (Kd.R_reads' HO574.out).2.1); (case side3 => repeat (first | exact (Kd.R_reads' HO600.out).2.2 | (with_reducible refine Kd.C_alloc ?_ _) | (with_reducible refine Kd.C_drewN ?_ _) | (with_reducible refine Kd.C_drew ?_))); (case side4 => exact (Kd.R_reads' HO600.out).2.1); rintro e w45 ⟨rfl, hb⟩; refine ⟨_, rfl, ?_⟩; replace HO574 := Aside0.mk (Kd.R_below (by (with_reducible repeat (first | apply Kd.R_alloc | apply Kd.R_drewN | apply Kd.R_drew)); exact HO574.out) hb); replace HO600 := Aside0.mk (Kd.R_below (by (with_reducible repeat (first | apply Kd.R_alloc | apply Kd.R_drewN | apply Kd.R_drew)); exact HO600.out) hb); replace HB := rS HB hb; (try clear hb); ))
           go_ret
           exact ⟨xR, bH HB.out⟩
         ·rw [if_neg c28] at H; exact absurd H (by simp)
        ·rw [if_neg c27] at H; exact absurd H (by simp)
 ·replace c4 := Bool.eq_false_iff.mpr c4; subst c4; rw [if_neg (show ¬ (false = true) by decide)] at H; exact absurd H (by simp)

end Go.Proofs.YtbfgopinbpbddaaDoor.P
