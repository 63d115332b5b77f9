/- Lean functions for the Go functions that the laws of this seat use, and the proofs that the Go code computes them; conditions: the readings that each theorem names. Written by a program. -/
import Derived.Test.YtdgpagocccabdaaDoorPx0
import Derived.Test.YtdgpagocccabdaaDoorPx10
import Derived.Test.YtdgpagocccabdaaDoorPx25
import Derived.Test.YtdgpagocccabdaaDoorPx27
import Derived.Test.YtdgpagocccabdaaDoorShort
namespace Go.Proofs.YtdgpagocccabdaaDoor.P
open Go.RowKit Go.Proofs.YtdgpagocccabdaaDoorW.PrintWords Go.Proofs.YtdgpagocccabdaaDoorW.PrintLast Go.Proofs.YtdgpagocccabdaaDoorW.PrintMore
set_option linter.unusedVariables false
set_option linter.unusedSimpArgs false

/-! ### tallboyref18_Read: function 15 -/
mutual
def tallboyref18_Read.l0 : Nat → Int → ByteArray → ByteArray → Int → Int → Option (Int × (List (S47)) × Int × Int × Int)
 | 0, _, _, _, _, _ => none
 | k + 1, x0, x1, x7, x8, x10 => if x10 ≤ 12 then ((tallboyref18_plain.f x0 x10).bind fun t206 => (if t206.toList = ([] : List UInt8) then (tallboyref18_Read.l0 k x0 x1 x7 x8 (wrap64 (x10 + 1))) else (if t206.toList = x7.toList then (some (x10, ([] : List (S47)), 0, x8, 0)) else (tallboyref18_Read.l0 k x0 x1 x7 x8 (wrap64 (x10 + 1)))))) else (if (x7.size : Int) ≤ 20 then ((tallboyref18_number.f k x7 18446744073709551615).bind fun bt207 => (if bt207.2 = true then (some (7, ([] : List (S47)), bt207.1, x8, 0)) else (tallboyref18_Read.j1 k x0 x1))) else (tallboyref18_Read.j1 k x0 x1))
def tallboyref18_Read.j1 : Nat → Int → ByteArray → Option (Int × (List (S47)) × Int × Int × Int)
 | 0, _, _ => none
 | k + 1, x0, x1 => tallboyref18_Read.l1 k x0 x1 0 0 1 ([] : List (S47)) 0
def tallboyref18_Read.l1 : Nat → Int → ByteArray → Int → Int → Int → List (S47) → Int → Option (Int × (List (S47)) × Int × Int × Int)
 | 0, _, _, _, _, _, _, _ => none
 | k + 1, x0, x1, x15, x16, z6, z3, z7 => if x16 ≤ 100 then (if (wrap64 ((x1.size : Int) - x15)) ≥ 5 then (if 0 ≤ x15 then (if x15 ≤ (wrap64 (x15 + 5)) then (if (wrap64 (x15 + 5)) ≤ (x1.size : Int) then (tallboyref18_Read.j3 k x0 x1 x15 x16 ((x1.extract (x15 : Int).toNat ((wrap64 (x15 + 5)) : Int).toNat).toList == ([69, 78, 68, 13, 10] : List UInt8)) z6 z3 z7) else (none)) else (none)) else (none)) else (tallboyref18_Read.j3 k x0 x1 x15 x16 false z6 z3 z7)) else (some (0, ([] : List (S47)), 0, 0, 6))
def tallboyref18_Read.j3 : Nat → Int → ByteArray → Int → Int → Bool → Int → List (S47) → Int → Option (Int × (List (S47)) × Int × Int × Int)
 | 0, _, _, _, _, _, _, _, _ => none
 | k + 1, x0, x1, x15, x16, x75, z6, z3, z7 => if x75 = true then (some (z6, z3, z7, wrap64 (x15 + 5), 0)) else (if 0 ≤ x15 then (if x15 ≤ (x1.size : Int) then ((tallboyref18_hit.f k x0 (x1.extract (x15 : Int).toNat x1.size)).bind fun bt210 => (if bt210.2.2.2.2.2 = true then (if z3.length < 2932031007402 then (tallboyref18_Read.l1 k x0 x1 (wrap64 (x15 + bt210.2.2.2.2.1)) (wrap64 (x16 + 1)) z6 (z3 ++ [(⟨bt210.1, bt210.2.1, bt210.2.2.1, bt210.2.2.2.1⟩ : S47)]) z7) else (none)) else (some (0, ([] : List (S47)), 0, 0, 6)))) else (none)) else (none))
end
def tallboyref18_Read.f (k : Nat) (a0 : Int) (a1 : ByteArray) : Option (Int × (List (S47)) × Int × Int × Int) := (tallboyref18_line.f k a1).bind fun bt203 => (if bt203.2.2 = true then (tallboyref18_Read.l0 k a0 a1 bt203.1 bt203.2.1 2) else (some (0, ([] : List (S47)), 0, 0, 6)))
theorem tallboyref18_Read.mono_l : ∀ k, (∀ y0 y1 y2 y3 y4, LeO (tallboyref18_Read.l0 k y0 y1 y2 y3 y4) (tallboyref18_Read.l0 (k + 1) y0 y1 y2 y3 y4)) ∧ (∀ y0 y1, LeO (tallboyref18_Read.j1 k y0 y1) (tallboyref18_Read.j1 (k + 1) y0 y1)) ∧ (∀ y0 y1 y2 y3 y4 y5 y6, LeO (tallboyref18_Read.l1 k y0 y1 y2 y3 y4 y5 y6) (tallboyref18_Read.l1 (k + 1) y0 y1 y2 y3 y4 y5 y6)) ∧ (∀ y0 y1 y2 y3 y4 y5 y6 y7, LeO (tallboyref18_Read.j3 k y0 y1 y2 y3 y4 y5 y6 y7) (tallboyref18_Read.j3 (k + 1) y0 y1 y2 y3 y4 y5 y6 y7))
 | 0 => ⟨fun _ _ _ _ _ r h => by simp [tallboyref18_Read.l0] at h, fun _ _ r h => by simp [tallboyref18_Read.j1] at h, fun _ _ _ _ _ _ _ r h => by simp [tallboyref18_Read.l1] at h, fun _ _ _ _ _ _ _ _ r h => by simp [tallboyref18_Read.j3] at h⟩
 | k + 1 => by
  obtain ⟨ih0, ih1, ih2, ih3⟩ := tallboyref18_Read.mono_l k; refine ⟨?_, ?_, ?_, ?_⟩
  all_goals intros
  all_goals (first | unfold tallboyref18_Read.l0 | unfold tallboyref18_Read.j1 | unfold tallboyref18_Read.l1 | unfold tallboyref18_Read.j3)
  all_goals repeat' first | (with_reducible first | apply ih0 | apply ih1 | apply ih2 | apply ih3 | apply tallboyref18_hit.mono | apply tallboyref18_line.mono | apply tallboyref18_number.mono | exact LeO.refl _ | exact LeO.none _ | refine LeO.ite ?_ ?_ | refine LeO.bind ?_ (fun _ => ?_)) | apply ih0 | apply ih1 | apply ih2 | apply ih3 | apply tallboyref18_hit.mono | apply tallboyref18_line.mono | apply tallboyref18_number.mono | exact LeO.none _ | refine LeO.ite ?_ ?_ | refine LeO.bind ?_ (fun _ => ?_)
theorem tallboyref18_Read.mono : ∀ a0 a1 k, LeO (tallboyref18_Read.f k a0 a1) (tallboyref18_Read.f (k + 1) a0 a1) := by
 intro a0 a1 k
 obtain ⟨ih0, ih1, ih2, ih3⟩ := tallboyref18_Read.mono_l k; unfold tallboyref18_Read.f
 repeat' first | (with_reducible first | apply ih0 | apply ih1 | apply ih2 | apply ih3 | apply tallboyref18_hit.mono | apply tallboyref18_line.mono | apply tallboyref18_number.mono | exact LeO.refl _ | exact LeO.none _ | refine LeO.ite ?_ ?_ | refine LeO.bind ?_ (fun _ => ?_)) | apply ih0 | apply ih1 | apply ih2 | apply ih3 | apply tallboyref18_hit.mono | apply tallboyref18_line.mono | apply tallboyref18_number.mono | exact LeO.none _ | refine LeO.ite ?_ ?_ | refine LeO.bind ?_ (fun _ => ?_)
set_option maxHeartbeats 8000000 in
set_option maxRecDepth 100000 in
theorem tallboyref18_Read.calls (k : Nat) (a0 : Int) (a1 : ByteArray) (r1 : Int) (r2 : List (S47)) (r3 : Int) (r4 : Int) (r5 : Int) (w : World) (h : tallboyref18_Read.f k a0 a1 = some (r1, r2, r3, r4, r5)) :
  Calls Tryd.prog 15 #[.int .i64 a0, .string a1] w fun e w' => ∃ v1_ : Value, e = .returned (.tuple #[.agg #[.int .i64 r1, v1_, .int .u64 r3], .int .i64 r4, .int .i64 r5]) ∧ Kd.R k47 47 w' w.heap.size (fun _ => True) v1_ r2 ∧ Below w.heap.size w w' := by
 have hu25 := Tryd.underlying25; have hu47 := Tryd.underlying47; have HB := Aside0.mk (Below.refl w.heap.size w); have H : ((tallboyref18_line.f k a1).bind fun bt203 => (if bt203.2.2 = true then (tallboyref18_Read.l0 k a0 a1 bt203.1 bt203.2.1 2) else (some (0, ([] : List (S47)), 0, 0, 6)))) = some (r1, r2, r3, r4, r5) := h; clear h; replace H := Option.bind_eq_some_iff.mp H; obtain ⟨⟨t203, t204, t205⟩, A30, H⟩ := H; (try dsimp only at H); have A3 := Aside0.mk A30; clear A30
 by_cases c4 : t205 = true
 ·subst c4; rw [if_pos rfl] at H; have H' := Aside0.mk H; clear H; go_enter Tryd.func15, Tryd.ntmps15
  go_wp2_with (first | ((with_reducible refine gate_dst (N := 4) rfl ?_); refine bE 4 #[.int .i64 0, .slice none 0 0, .int .u64 0] 25 rfl rfl ?_; intro gb202 hg w5 hbox hb; have BK202 := rM hbox; have GW202 := rG HB hg; replace HB := rS HB hb; have GE202 := GW202; clear hb hbox hg) | ((with_reducible refine gate_callee (f := 33) rfl ?_); refine goesL_ (some 22) rfl rfl Tryd.func33 (by kernel_rfl) rfl #[.string a1] rfl (by (try simp only [List.map_toArray, List.map_cons, List.map_nil]); first | done | rfl | (simp only [List.length_drop, List.length_take]; rfl)) ?_; (with_reducible refine (tallboyref18_line.calls k a1 t203 t204 true _ A3.out).mono ?_); rintro e w' ⟨rfl, ⟨nd, rfl⟩⟩; refine ⟨_, rfl, ?_⟩))
  go_loopg [10] k (fun kq v10 w' => ∃ (x10_1 : Int) (z4 : Int) (z5 : Int), v10 = .int .i64 x10_1 ∧ Aside0 (tallboyref18_Read.l0 kq a0 a1 t203 t204 x10_1 = some (r1, r2, r3, r4, r5)) ∧ Aside0 (kq ≤ k) ∧ Aside0 (w'.heap[gb202]? = some (.cells #[.int .i64 z4, (.slice none 0 0), .int .u64 z5] 25 (0, 0))) ∧ Aside0 (Below w.heap.size w w'))
  case atStart => exact ⟨(2), (0), (0), (by first | rfl | (simp; done) | (simp [*]; done)), H', ⟨Nat.le_refl _⟩, ⟨bK BK202.out⟩, ⟨bH HB.out⟩⟩
  case round =>
   clear H'; (try clear c4); obtain ⟨x10_1, z4, z5, rfl, HA, HK1, BK202, HB⟩ := hrel; cases gk with
   | zero => exact absurd HA.out (by simp [tallboyref18_Read.l0])
   | succ k1 =>
    have H := HA.out; clear HA; simp only [tallboyref18_Read.l0] at H
    by_cases c6 : x10_1 ≤ 12
    ·rw [if_pos c6] at H; have c6b0 : decide (x10_1 ≤ 12) = true := decide_eq_true c6; clear c6; replace H := Option.bind_eq_some_iff.mp H; obtain ⟨t206, A70, H⟩ := H; (try dsimp only at H); have A7 := Aside0.mk A70; clear A70
     by_cases c8 : t206.toList = ([] : List UInt8)
     ·rw [if_pos c8] at H; have c8b0 : (t206.toList == ([] : List UInt8)) = true := beq_iff_eq.mpr c8; have c8b1 : (t206.toList != ([] : List UInt8)) = false := bne_eq_false_iff_eq.mpr c8; clear c8; have H' := Aside0.mk H; clear H
      go_wp2_with (first | ((with_reducible refine gate_callee (f := 28) rfl ?_); refine goesL_ (some 35) rfl rfl Tryd.func28 (by kernel_rfl) rfl #[.int .i64 a0, .int .i64 x10_1] rfl (by (try simp only [List.map_toArray, List.map_cons, List.map_nil]); first | done | rfl | (simp only [List.length_drop, List.length_take]; rfl)) ?_; (with_reducible refine (tallboyref18_plain.calls a0 x10_1 t206 _ A7.out).mono ?_); rintro e w' ⟨rfl, ⟨nd, rfl⟩⟩; refine ⟨_, rfl, ?_⟩))
      go_roundg k1
      case measure => have := HK1.out; omega
      case rel => exact ⟨(wrap64 (x10_1 + 1)), (z4), (z5), (by first | rfl | (simp; done) | (simp [*]; done)), H', ⟨by have := HK1.out; omega⟩, ⟨bK BK202.out⟩, ⟨bH HB.out⟩⟩
     ·rw [if_neg c8] at H; have c8b0 : (t206.toList == ([] : List UInt8)) = false := beq_eq_false_iff_ne.mpr c8; have c8b1 : (t206.toList != ([] : List UInt8)) = true := bne_iff_ne.mpr c8
      by_cases c9 : t206.toList = t203.toList
      ·rw [if_pos c9] at H; have c9b0 : (t206.toList == t203.toList) = true := beq_iff_eq.mpr c9; have c9b1 : (t206.toList != t203.toList) = false := bne_eq_false_iff_eq.mpr c9; clear c9; simp only [Option.some.injEq, Prod.mk.injEq] at H; obtain ⟨rfl, rfl, rfl, rfl, rfl⟩ := H
       go_wp2_with (first | ((with_reducible refine gate_callee (f := 28) rfl ?_); refine goesL_ (some 35) rfl rfl Tryd.func28 (by kernel_rfl) rfl #[.int .i64 a0, .int .i64 x10_1] rfl (by (try simp only [List.map_toArray, List.map_cons, List.map_nil]); first | done | rfl | (simp only [List.length_drop, List.length_take]; rfl)) ?_; (with_reducible refine (tallboyref18_plain.calls a0 x10_1 t206 _ A7.out).mono ?_); rintro e w' ⟨rfl, ⟨nd, rfl⟩⟩; refine ⟨_, rfl, ?_⟩; (try simp only [World.drewN_drewN]); (try (rw [drewN_self wr]; generalize hq_ : World.drewN wr _ = wr; have n0_ := Aside0.mk (bQ BK202.out hq_); have n1_ := Aside0.mk (bF HB.out hq_); clear BK202 HB hq_; have BK202 := n0_; have HB := n1_; clear n0_ n1_)); obtain ⟨hcz10, hfz10⟩ := d3 BK202))
       refine bodyPost_ret (results_ctt rfl _ _ gb202 25 #[.int .i64 x10_1, .slice none 0 0, .int .u64 0] (0, 0) _ rfl (bV BK202.out) Tryd.underlying25 rfl (by kernel_rfl)) rfl ?_
       exact ⟨_, xR, xN, bH HB.out⟩
      ·rw [if_neg c9] at H; have c9b0 : (t206.toList == t203.toList) = false := beq_eq_false_iff_ne.mpr c9; have c9b1 : (t206.toList != t203.toList) = true := bne_iff_ne.mpr c9; have H' := Aside0.mk H; clear H
       go_wp2_with (first | ((with_reducible refine gate_callee (f := 28) rfl ?_); refine goesL_ (some 35) rfl rfl Tryd.func28 (by kernel_rfl) rfl #[.int .i64 a0, .int .i64 x10_1] rfl (by (try simp only [List.map_toArray, List.map_cons, List.map_nil]); first | done | rfl | (simp only [List.length_drop, List.length_take]; rfl)) ?_; (with_reducible refine (tallboyref18_plain.calls a0 x10_1 t206 _ A7.out).mono ?_); rintro e w' ⟨rfl, ⟨nd, rfl⟩⟩; refine ⟨_, rfl, ?_⟩))
       go_roundg k1
       case measure => have := HK1.out; omega
       case rel => exact ⟨(wrap64 (x10_1 + 1)), (z4), (z5), (by first | rfl | (simp; done) | (simp [*]; done)), H', ⟨by have := HK1.out; omega⟩, ⟨bK BK202.out⟩, ⟨bH HB.out⟩⟩
    ·rw [if_neg c6] at H; have c6b0 : decide (x10_1 ≤ 12) = false := decide_eq_false c6; clear c6; have HC11 := Aside0.mk H; clear H
     go_upto_if 48 with (fail)
     go_cut [] (fun wc => ∃ (kq : Nat) (za : Int) (zb : Int), Aside0 (tallboyref18_Read.j1 kq a0 a1 = some (r1, r2, r3, r4, r5)) ∧ Aside0 (kq ≤ k1) ∧ Aside0 (wc.heap[gb202]? = some (.cells #[.int .i64 za, (.slice none 0 0), .int .u64 zb] 25 (0, 0))) ∧ Aside0 (Below w.heap.size w wc))
     case first =>
      have H := HC11.out; clear HC11
      by_cases c12 : (t203.size : Int) ≤ 20
      ·rw [if_pos c12] at H; have c12b0 : decide ((t203.size : Int) ≤ 20) = true := decide_eq_true c12; have c12b1 : decide (t203.size ≤ 20) = true := decide_eq_true (by omega); clear c12
       (first | rw [c12b0] | (simp only [i64_w, i32_w]; rw [c12b0]) | skip)
       replace H := Option.bind_eq_some_iff.mp H; obtain ⟨⟨t207, t208⟩, A130, H⟩ := H; (try dsimp only at H); have A13 := Aside0.mk A130; clear A130
       by_cases c14 : t208 = true
       ·subst c14; rw [if_pos rfl] at H; simp only [Option.some.injEq, Prod.mk.injEq] at H; obtain ⟨rfl, rfl, rfl, rfl, rfl⟩ := H
        go_wp2_with (first | ((with_reducible refine gate_callee (f := 34) rfl ?_); refine goesL_ (some 51) rfl rfl Tryd.func34 (by kernel_rfl) rfl #[.string t203, .int .u64 18446744073709551615] rfl (by (try simp only [List.map_toArray, List.map_cons, List.map_nil]); first | done | rfl | (simp only [List.length_drop, List.length_take]; rfl)) ?_; (with_reducible refine (tallboyref18_number.calls k1 t203 18446744073709551615 t207 true _ A13.out).mono ?_); rintro e w15 ⟨rfl, hb⟩; refine ⟨_, rfl, ?_⟩; replace BK202 := rB BK202 hb; replace HB := rS HB hb; (try clear hb); (try clear hk); obtain ⟨hcz16, hfz16⟩ := d3 BK202))
        refine bodyPost_ret (results_ctt rfl _ _ gb202 25 #[.int .i64 7, .slice none 0 0, .int .u64 t207] (0, 0) _ rfl (bV BK202.out) Tryd.underlying25 rfl (by kernel_rfl)) rfl ?_
        exact ⟨_, xR, xN, bH HB.out⟩
       ·replace c14 := Bool.eq_false_iff.mpr c14; subst c14; rw [if_neg (show ¬ (false = true) by decide)] at H; have H' := Aside0.mk H; clear H
        go_wp2_with (first | ((with_reducible refine gate_callee (f := 34) rfl ?_); refine goesL_ (some 51) rfl rfl Tryd.func34 (by kernel_rfl) rfl #[.string t203, .int .u64 18446744073709551615] rfl (by (try simp only [List.map_toArray, List.map_cons, List.map_nil]); first | done | rfl | (simp only [List.length_drop, List.length_take]; rfl)) ?_; (with_reducible refine (tallboyref18_number.calls k1 t203 18446744073709551615 t207 false _ A13.out).mono ?_); rintro e w17 ⟨rfl, hb⟩; refine ⟨_, rfl, ?_⟩; replace BK202 := rB BK202 hb; replace HB := rS HB hb; (try clear hb); (try clear hk); ))
        go_meet
        case rel => exact ⟨_, (z4), (z5), H', ⟨by have := HK1.out; first | omega | exact Nat.le_refl _⟩, ⟨bK BK202.out⟩, ⟨bH HB.out⟩⟩
      ·rw [if_neg c12] at H; have c12b0 : decide ((t203.size : Int) ≤ 20) = false := decide_eq_false c12; have c12b1 : decide (t203.size ≤ 20) = false := decide_eq_false (by omega); clear c12
       (first | rw [c12b0] | (simp only [i64_w, i32_w]; rw [c12b0]) | skip)
       have H' := Aside0.mk H; clear H; go_wp2
       go_meet
       case rel => exact ⟨_, (z4), (z5), H', ⟨by have := HK1.out; first | omega | exact Nat.le_refl _⟩, ⟨bK BK202.out⟩, ⟨bH HB.out⟩⟩
     case rest =>
      clear HC11; (try clear c4); (try clear c6b0); (try clear c8); (try clear c8b0); (try clear c8b1); (try clear c9); (try clear c9b0); (try clear c9b1); (try clear c12b0); (try clear c12b1); (try clear c14); (try clear hcz10); (try clear hcz16); (try clear hfz10); (try clear hfz16); obtain ⟨kq, za, zb, HA, HJ10, BK202, HB⟩ := hcut; cases kq with
      | zero => exact absurd HA.out (by simp [tallboyref18_Read.j1])
      | succ kj10 =>
       have H := HA.out; clear HA; simp only [tallboyref18_Read.j1] at H; have H' := Aside0.mk H; clear H
       go_wp2_with (first | ((with_reducible refine gate_dst (N := 14) rfl ?_); refine bE 14 #[.int .i64 0, .slice none 0 0, .int .u64 0] 25 rfl rfl ?_; intro gb209 hg w18 hbox hb; have BK209 := rM hbox; have GW209 := rG HB hg; replace HB := rS HB hb; have GE209 := GW209; have NB202_209 := rN BK202 hg; replace BK202 := rB BK202 hb; have NB209_202 := rY NB202_209; clear hb hbox hg; have hnb19 := rP NB209_202 NB202_209; obtain ⟨hcz20, hfz20⟩ := d3 BK209))
       go_loopg [15, 16] kj10 (fun kq v15 v16 w' => ∃ (x15_3 : Int) (x16_3 : Int) (z8 : Int) (z9 : Int) (z1 : List (S47)) (z2 : Value), v15 = .int .i64 x15_3 ∧ v16 = .int .i64 x16_3 ∧ Aside0 (tallboyref18_Read.l1 kq a0 a1 x15_3 x16_3 1 z1 0 = some (r1, r2, r3, r4, r5)) ∧ Aside0 (kq ≤ kj10) ∧ Aside0 (Kd.R k47 47 w' w.heap.size (fun _ => True) z2 z1) ∧ Aside0 (w'.heap[gb202]? = some (.cells #[.int .i64 z8, (.slice none 0 0), .int .u64 z9] 25 (0, 0))) ∧ Aside0 (w'.heap[gb209]? = some (.cells #[.int .i64 1, z2, .int .u64 0] 25 (0, 0))) ∧ Aside0 (Below w.heap.size w w'))
       case atStart => exact ⟨(0), (0), (za), (zb), (([] : List (S47))), (.slice none 0 0), (by first | rfl | (simp; done) | (simp [*]; done)), (by first | rfl | (simp; done) | (simp [*]; done)), H', ⟨Nat.le_refl _⟩, ⟨xN⟩, ⟨bK BK202.out⟩, ⟨bV BK209.out⟩, ⟨bH HB.out⟩⟩
       case round =>
        clear H'; (try clear c4); (try clear c6b0); (try clear c8); (try clear c8b0); (try clear c8b1); (try clear c9); (try clear c9b0); (try clear c9b1); (try clear c12b0); (try clear c12b1); (try clear c14); (try clear hcz10); (try clear hcz16); (try clear hcz20); (try clear hfz10); (try clear hfz16); (try clear hfz20); obtain ⟨x15_3, x16_3, z8, z9, z1, z2, rfl, rfl, HA, HK3, z0, BK202, BK209, HB⟩ := hrel; cases gk with
        | zero => exact absurd HA.out (by simp [tallboyref18_Read.l1])
        | succ k3 =>
         have H := HA.out; clear HA; simp only [tallboyref18_Read.l1] at H
         by_cases c21 : x16_3 ≤ 100
         ·rw [if_pos c21] at H; have c21b0 : decide (x16_3 ≤ 100) = true := decide_eq_true c21; clear c21; have HC22 := Aside0.mk H; clear H
          go_upto_region 19 with (fail)
          go_cut [75] (fun v75 wc => ∃ (kq : Nat) (x75_21 : Bool), v75 = .bool x75_21 ∧ Aside0 (tallboyref18_Read.j3 kq a0 a1 x15_3 x16_3 x75_21 1 z1 0 = some (r1, r2, r3, r4, r5)) ∧ Aside0 (kq ≤ k3) ∧ Aside0 (Kd.R k47 47 wc w.heap.size (fun _ => True) z2 z1) ∧ Aside0 (wc.heap[gb202]? = some (.cells #[.int .i64 z8, (.slice none 0 0), .int .u64 z9] 25 (0, 0))) ∧ Aside0 (wc.heap[gb209]? = some (.cells #[.int .i64 1, z2, .int .u64 0] 25 (0, 0))) ∧ Aside0 (Below w.heap.size w wc))
          case first =>
           have H := HC22.out; clear HC22
           by_cases c23 : (wrap64 ((a1.size : Int) - x15_3)) ≥ 5
           ·rw [if_pos c23] at H; have c23b0 : decide (5 ≤ (wrap64 ((a1.size : Int) - x15_3))) = true := decide_eq_true c23; clear c23
            (first | rw [c23b0] | (simp only [i64_w, i32_w]; rw [c23b0]) | skip)
            by_cases c24 : 0 ≤ x15_3
            ·rw [if_pos c24] at H; have c24b0 := eq_true c24; have c24b1 : decide (0 ≤ x15_3) = true := decide_eq_true c24; clear c24
             by_cases c25 : x15_3 ≤ (wrap64 (x15_3 + 5))
             ·rw [if_pos c25] at H; have c25b0 := eq_true c25; have c25b1 : decide (x15_3 ≤ (wrap64 (x15_3 + 5))) = true := decide_eq_true c25
              by_cases c26 : (wrap64 (x15_3 + 5)) ≤ (a1.size : Int)
              ·rw [if_pos c26] at H; have c26b0 := eq_true c26; have c26b1 : decide ((wrap64 (x15_3 + 5)) ≤ (a1.size : Int)) = true := decide_eq_true c26; have H' := Aside0.mk H; clear H; go_wp2
               go_meet
               case rel => exact ⟨_, (((a1.extract (x15_3 : Int).toNat ((wrap64 (x15_3 + 5)) : Int).toNat).toList == ([69, 78, 68, 13, 10] : List UInt8))), (by first | rfl | (simp; done) | (simp [*]; done)), H', ⟨by have := HK1.out; have := HJ10.out; have := HK3.out; first | omega | exact Nat.le_refl _⟩, ⟨by (with_reducible repeat (first | apply Kd.R_alloc | apply Kd.R_drewN | apply Kd.R_drew)); exact z0.out⟩, ⟨bK BK202.out⟩, ⟨bK BK209.out⟩, ⟨bH HB.out⟩⟩
              ·rw [if_neg c26] at H; exact absurd H (by simp)
             ·rw [if_neg c25] at H; exact absurd H (by simp)
            ·rw [if_neg c24] at H; exact absurd H (by simp)
           ·rw [if_neg c23] at H; have c23b0 : decide (5 ≤ (wrap64 ((a1.size : Int) - x15_3))) = false := decide_eq_false c23; clear c23
            (first | rw [c23b0] | (simp only [i64_w, i32_w]; rw [c23b0]) | skip)
            have H' := Aside0.mk H; clear H; go_wp2
            go_meet
            case rel => exact ⟨_, (false), (by first | rfl | (simp; done) | (simp [*]; done)), H', ⟨by have := HK1.out; have := HJ10.out; have := HK3.out; first | omega | exact Nat.le_refl _⟩, ⟨by (with_reducible repeat (first | apply Kd.R_alloc | apply Kd.R_drewN | apply Kd.R_drew)); exact z0.out⟩, ⟨bK BK202.out⟩, ⟨bK BK209.out⟩, ⟨bH HB.out⟩⟩
          case rest =>
           clear HC22; (try clear c4); (try clear c6b0); (try clear c8); (try clear c8b0); (try clear c8b1); (try clear c9); (try clear c9b0); (try clear c9b1); (try clear c12b0); (try clear c12b1); (try clear c14); (try clear c21b0); (try clear c23b0); (try clear c24); (try clear c24b0); (try clear c24b1); (try clear c25); (try clear c25b0); (try clear c25b1); (try clear c26); (try clear c26b0); (try clear c26b1); (try clear hcz10); (try clear hcz16); (try clear hcz20); (try clear hfz10); (try clear hfz16); (try clear hfz20); obtain ⟨kq, x75_21, rfl, HA, HJ21, z0, BK202, BK209, HB⟩ := hcut; cases kq with
           | zero => exact absurd HA.out (by simp [tallboyref18_Read.j3])
           | succ kj21 =>
            have H := HA.out; clear HA; simp only [tallboyref18_Read.j3] at H
            by_cases c27 : x75_21 = true
            ·subst c27; rw [if_pos rfl] at H; simp only [Option.some.injEq, Prod.mk.injEq] at H; obtain ⟨rfl, rfl, rfl, rfl, rfl⟩ := H; have hnb28 := rP NB209_202 NB202_209; obtain ⟨hcz29, hfz29⟩ := d3 BK209; obtain ⟨hcz30, hfz30⟩ := d3 BK202; obtain ⟨Ao31, co31, eo31⟩ := Kd.R_slice z0.out; subst eo31; go_wp2; refine bodyPost_ret (results_ctt rfl _ _ gb202 25 #[.int .i64 1, .slice Ao31 z1.length co31, .int .u64 0] (0, 0) _ rfl (bV BK202.out) Tryd.underlying25 rfl (by kernel_rfl)) rfl ?_
             exact ⟨_, xR, by (with_reducible repeat (first | apply Kd.R_alloc | apply Kd.R_drewN | apply Kd.R_drew)); exact Kd.R_mono (Kd.R_far (p := ⟨gb202, 2, none⟩) (Kd.R_far (p := ⟨gb202, 1, none⟩) (Kd.R_far (p := ⟨gb202, 0, none⟩) (Kd.R_types z0.out BK202.out (by decide)) (fun _ hk => hk.2) (.int .i64 1)) (fun _ hk => hk.2) (.slice Ao31 z1.length co31)) (fun _ hk => hk.2) (.int .u64 0)) (fun _ hk => trivial), bH HB.out⟩
            ·replace c27 := Bool.eq_false_iff.mpr c27; subst c27; rw [if_neg (show ¬ (false = true) by decide)] at H
             by_cases c32 : 0 ≤ x15_3
             ·rw [if_pos c32] at H; have c32b0 := eq_true c32; have c32b1 : decide (0 ≤ x15_3) = true := decide_eq_true c32; clear c32
              by_cases c33 : x15_3 ≤ (a1.size : Int)
              ·rw [if_pos c33] at H; have c33b0 := eq_true c33; have c33b1 : decide (x15_3 ≤ (a1.size : Int)) = true := decide_eq_true c33; clear c33; replace H := Option.bind_eq_some_iff.mp H; obtain ⟨⟨t210, t211, t212, t213, t214, t215⟩, A340, H⟩ := H; (try dsimp only at H); have A34 := Aside0.mk A340; clear A340
               by_cases c35 : t215 = true
               ·subst c35; rw [if_pos rfl] at H
                by_cases c36 : z1.length < 2932031007402
                ·rw [if_pos c36] at H; have LMc36 := Aside0.mk c36; clear c36; obtain ⟨y217, hy217⟩ : ∃ y_ : List (S47), y_ = (z1 ++ [(⟨t210, t211, t212, t213⟩ : S47)]) := ⟨_, rfl⟩; replace H : (tallboyref18_Read.l1 kj21 a0 a1 (wrap64 (x15_3 + t214)) (wrap64 (x16_3 + 1)) 1 y217 0) = some (r1, r2, r3, r4, r5) := by first | (rw [hy217]; with_reducible exact H) | (have H2_ := (Option.bind_some _ _).symm.trans H; rw [hy217]; with_reducible exact H2_) | (have H2_ := (Option.bind_some _ _).symm.trans H; with_reducible exact H2_) | with_reducible exact H | (rw [hy217]; exact H) | exact H
                 have Ny217 := Aside0.mk hy217; clear hy217; have H' := Aside0.mk H; clear H
                 go_wp2_with (first | ((with_reducible refine gate_callee (f := 35) rfl ?_); refine goesL_ (some 84) rfl rfl Tryd.func35 (by kernel_rfl) rfl #[.int .i64 a0, .string (a1.extract (x15_3 : Int).toNat a1.size)] rfl (by (try simp only [List.map_toArray, List.map_cons, List.map_nil]); first | done | rfl | (simp only [List.length_drop, List.length_take]; rfl)) ?_; (with_reducible refine (tallboyref18_hit.calls kj21 a0 (a1.extract (x15_3 : Int).toNat a1.size) t210 t211 t212 t213 t214 true _ A34.out).mono ?_); rintro e w37 ⟨rfl, hb⟩; refine ⟨_, rfl, ?_⟩; replace z0 := Aside0.mk (Kd.R_below (by (with_reducible repeat (first | apply Kd.R_alloc | apply Kd.R_drewN | apply Kd.R_drew)); exact z0.out) hb); replace BK202 := rB BK202 hb; replace BK209 := rB BK209 hb; replace HB := rS HB hb; (try clear hb); (try clear hk); ) | ((with_reducible refine gate_dst (N := 17) rfl ?_); refine bE 17 #[.string (⟨#[]⟩ : ByteArray), .int .u32 0, .string (⟨#[]⟩ : ByteArray), .int .u64 0] 47 rfl rfl ?_; intro gb216 hg w38 hbox hb; replace z0 := Aside0.mk (Kd.R_below (Kd.R_elderB (by (with_reducible repeat (first | apply Kd.R_alloc | apply Kd.R_drewN | apply Kd.R_drew)); exact z0.out) gb216 (Nat.le_of_eq hg.symm)) hb); have BK216 := rM hbox; have GW216 := rG HB hg; replace HB := rS HB hb; have GE216 := GW216; have NB202_216 := rN BK202 hg; replace BK202 := rB BK202 hb; have NB216_202 := rY NB202_216; have NB209_216 := rN BK209 hg; replace BK209 := rB BK209 hb; have NB216_209 := rY NB209_216; clear hb hbox hg; have hnb39 := rP NB216_202 NB202_216; have hnb40 := rP NB216_209 NB209_216; obtain ⟨hcz41, hfz41⟩ := d4 BK216; have hnb42 := rP NB209_202 NB202_209; obtain ⟨hcz43, hfz43⟩ := d3 BK209) | ((with_reducible refine gate_builtin (b := .append) (xs := #[.tmp 91, .tmp 93]) rfl ?_); at_builtin; refine Kd.R_append k47 (w0 := w) w.heap.size rfl (.tmp 91) (.tmp 93) 22 47 (.agg #[(.string ⟨#[]⟩), (.int .u32 0), (.string ⟨#[]⟩), (.int .u64 0)]) 48 rfl Tryd.underlying22 info47 rfl (by decide) (by omega) z2 z1 (⟨t210, t211, t212, t213⟩ : S47) [.string t210, .int .u32 t211, .string t212, .int .u64 t213] (fun k_ => k_ ≠ gb216) (fun _ => False) rfl (by first | (go_simp; done) | (go_simp; rfl)) ?aP (fun _ hk => hk.elim) ?aF ?aO ?aB ?aS ?aL ?_; (case aP => exact k47_mkM _ _ _ (⟨t210, t211, t212, t213⟩ : S47)); (case aB => exact (bH HB.out)); (case aF => exact (fun k_ hk => Kd.freshB (g := gb216) (o := .cells #[.string t210, .int .u32 t211, .string t212, .int .u64 t213] 47 (0, 0)) (bV BK216.out) k_ hk)); (case aO => exact (by (with_reducible repeat (first | apply Kd.R_alloc | apply Kd.R_drewN | apply Kd.R_drew)); exact Kd.R_mono (Kd.R_far (p := ⟨gb216, 3, none⟩) (Kd.R_far (p := ⟨gb216, 2, none⟩) (Kd.R_far (p := ⟨gb216, 1, none⟩) (Kd.R_far (p := ⟨gb216, 0, none⟩) (Kd.R_mono z0.out (fun k_ hk => (⟨hk, hk.2⟩ : _ ∧ k_ ≠ gb216))) (fun _ hk => hk.2) (.string t210)) (fun _ hk => hk.2) (.int .u32 t211)) (fun _ hk => hk.2) (.string t212)) (fun _ hk => hk.2) (.int .u64 t213)) (fun _ hk => hk.1.2))); (case aS => exact (below_size (bH HB.out))); (case aL => have := LMc36.out; omega); intro v218 w44 ho hb hg hat; rw [← Ny217.out] at ho; replace BK202 := Aside0.mk (blk_grown (g := gb202) (o := .cells #[.int .i64 z8, .slice none 0 0, .int .u64 z9] 25 (0, 0)) (bK BK202.out) hg (Kd.R_ne z0.out BK202.out (by decide))); replace BK209 := Aside0.mk (blk_grown (g := gb209) (o := .cells #[.int .i64 1, z2, .int .u64 0] 25 (0, 0)) (bK BK209.out) hg (Kd.R_ne z0.out BK209.out (by decide))); replace BK216 := Aside0.mk (blk_grown (g := gb216) (o := .cells #[.string t210, .int .u32 t211, .string t212, .int .u64 t213] 47 (0, 0)) (bV BK216.out) hg (Kd.R_away z0.out (fun _ hk => hk.2))); replace HB := Aside0.mk (hb); have HO219 := Aside0.mk (ho); clear z0; clear ho hb hg hat; obtain ⟨Ao45, co45, eo45⟩ := Kd.R_slice HO219.out; subst eo45; obtain ⟨hcz46, hfz46⟩ := d3 BK209))
                 go_roundg kj21
                 case measure => have := HK1.out; have := HJ10.out; have := HK3.out; have := HJ21.out; omega
                 case rel => exact ⟨(wrap64 (x15_3 + t214)), (wrap64 (x16_3 + 1)), (z8), (z9), (y217), (.slice Ao45 y217.length co45), (by first | rfl | (simp; done) | (simp [*]; done)), (by first | rfl | (simp; done) | (simp [*]; done)), H', ⟨by have := HK1.out; have := HJ10.out; have := HK3.out; have := HJ21.out; omega⟩, ⟨by (with_reducible repeat (first | apply Kd.R_alloc | apply Kd.R_drewN | apply Kd.R_drew)); exact Kd.R_mono (Kd.R_far (p := ⟨gb209, 1, none⟩) (Kd.R_types HO219.out BK209.out (by decide)) (fun _ hk => hk.2) (.slice Ao45 y217.length co45)) (fun _ hk => trivial)⟩, ⟨bK BK202.out⟩, ⟨bV BK209.out⟩, ⟨bH HB.out⟩⟩
                ·rw [if_neg c36] at H; exact absurd H (by simp)
               ·replace c35 := Bool.eq_false_iff.mpr c35; subst c35; rw [if_neg (show ¬ (false = true) by decide)] at H; simp only [Option.some.injEq, Prod.mk.injEq] at H; obtain ⟨rfl, rfl, rfl, rfl, rfl⟩ := H
                go_wp2_with (first | ((with_reducible refine gate_callee (f := 35) rfl ?_); refine goesL_ (some 84) rfl rfl Tryd.func35 (by kernel_rfl) rfl #[.int .i64 a0, .string (a1.extract (x15_3 : Int).toNat a1.size)] rfl (by (try simp only [List.map_toArray, List.map_cons, List.map_nil]); first | done | rfl | (simp only [List.length_drop, List.length_take]; rfl)) ?_; (with_reducible refine (tallboyref18_hit.calls kj21 a0 (a1.extract (x15_3 : Int).toNat a1.size) t210 t211 t212 t213 t214 false _ A34.out).mono ?_); rintro e w47 ⟨rfl, hb⟩; refine ⟨_, rfl, ?_⟩; replace z0 := Aside0.mk (Kd.R_below (by (with_reducible repeat (first | apply Kd.R_alloc | apply Kd.R_drewN | apply Kd.R_drew)); exact z0.out) hb); replace BK202 := rB BK202 hb; replace BK209 := rB BK209 hb; replace HB := rS HB hb; (try clear hb); (try clear hk); ) | ((with_reducible refine gate_dst (N := 17) rfl ?_); refine bE 17 #[.string (⟨#[]⟩ : ByteArray), .int .u32 0, .string (⟨#[]⟩ : ByteArray), .int .u64 0] 47 rfl rfl ?_; intro gb216 hg w48 hbox hb; replace z0 := Aside0.mk (Kd.R_below (Kd.R_elderB (by (with_reducible repeat (first | apply Kd.R_alloc | apply Kd.R_drewN | apply Kd.R_drew)); exact z0.out) gb216 (Nat.le_of_eq hg.symm)) hb); have BK216 := rM hbox; have GW216 := rG HB hg; replace HB := rS HB hb; have GE216 := GW216; have NB202_216 := rN BK202 hg; replace BK202 := rB BK202 hb; have NB216_202 := rY NB202_216; have NB209_216 := rN BK209 hg; replace BK209 := rB BK209 hb; have NB216_209 := rY NB209_216; clear hb hbox hg; have hnb49 := rP NB216_202 NB202_216; have hnb50 := rP NB216_209 NB209_216; obtain ⟨hcz51, hfz51⟩ := d4 BK216; have hnb52 := rP NB202_209 NB209_202; obtain ⟨hcz53, hfz53⟩ := d3 BK202))
                refine bodyPost_ret (results_ctt rfl _ _ gb202 25 #[.int .i64 0, .slice none 0 0, .int .u64 0] (0, 0) _ rfl (bV BK202.out) Tryd.underlying25 rfl (by kernel_rfl)) rfl ?_
                exact ⟨_, xR, xN, bH HB.out⟩
              ·rw [if_neg c33] at H; exact absurd H (by simp)
             ·rw [if_neg c32] at H; exact absurd H (by simp)
         ·rw [if_neg c21] at H; have c21b0 : decide (x16_3 ≤ 100) = false := decide_eq_false c21; clear c21; simp only [Option.some.injEq, Prod.mk.injEq] at H; obtain ⟨rfl, rfl, rfl, rfl, rfl⟩ := H; have hnb54 := rP NB202_209 NB209_202; obtain ⟨hcz55, hfz55⟩ := d3 BK202; go_wp2; refine bodyPost_ret (results_ctt rfl _ _ gb202 25 #[.int .i64 0, .slice none 0 0, .int .u64 0] (0, 0) _ rfl (bV BK202.out) Tryd.underlying25 rfl (by kernel_rfl)) rfl ?_
          exact ⟨_, xR, xN, bH HB.out⟩
 ·replace c4 := Bool.eq_false_iff.mpr c4; subst c4; rw [if_neg (show ¬ (false = true) by decide)] at H; simp only [Option.some.injEq, Prod.mk.injEq] at H; obtain ⟨rfl, rfl, rfl, rfl, rfl⟩ := H; go_enter Tryd.func15, Tryd.ntmps15
  go_wp2_with (first | ((with_reducible refine gate_dst (N := 4) rfl ?_); refine bE 4 #[.int .i64 0, .slice none 0 0, .int .u64 0] 25 rfl rfl ?_; intro gb202 hg w56 hbox hb; have BK202 := rM hbox; have GW202 := rG HB hg; replace HB := rS HB hb; have GE202 := GW202; clear hb hbox hg) | ((with_reducible refine gate_callee (f := 33) rfl ?_); refine goesL_ (some 22) rfl rfl Tryd.func33 (by kernel_rfl) rfl #[.string a1] rfl (by (try simp only [List.map_toArray, List.map_cons, List.map_nil]); first | done | rfl | (simp only [List.length_drop, List.length_take]; rfl)) ?_; (with_reducible refine (tallboyref18_line.calls k a1 t203 t204 false _ A3.out).mono ?_); rintro e w' ⟨rfl, ⟨nd, rfl⟩⟩; refine ⟨_, rfl, ?_⟩; (try simp only [World.drewN_drewN]); (try (rw [drewN_self w56]; generalize hq_ : World.drewN w56 _ = w56; have n0_ := Aside0.mk (bQ BK202.out hq_); have n1_ := Aside0.mk (bF HB.out hq_); clear BK202 HB hq_; have BK202 := n0_; have HB := n1_; clear n0_ n1_)); obtain ⟨hcz57, hfz57⟩ := d3 BK202))
  refine bodyPost_ret (results_ctt rfl _ _ gb202 25 #[.int .i64 0, .slice none 0 0, .int .u64 0] (0, 0) _ rfl (bV BK202.out) Tryd.underlying25 rfl (by kernel_rfl)) rfl ?_
  exact ⟨_, xR, xN, bH HB.out⟩

end Go.Proofs.YtdgpagocccabdaaDoor.P
