/- Lean functions for the Go functions that the laws of this seat use, and the proofs that the Go code computes them; conditions: the readings that each theorem names. Written by a program. -/
import Derived.Test.YtdgpagocccabdaaDoorPx0
import Derived.Test.YtdgpagocccabdaaDoorPx10
import Derived.Test.YtdgpagocccabdaaDoorPx25
import Derived.Test.YtdgpagocccabdaaDoorPx26
import Derived.Test.YtdgpagocccabdaaDoorShort
namespace Go.Proofs.YtdgpagocccabdaaDoor.P
open Go.RowKit Go.Proofs.YtdgpagocccabdaaDoorW.PrintWords Go.Proofs.YtdgpagocccabdaaDoorW.PrintLast Go.Proofs.YtdgpagocccabdaaDoorW.PrintMore
set_option linter.unusedVariables false
set_option linter.unusedSimpArgs false

/-! ### tallboyref18_hit: function 35 -/
mutual
def tallboyref18_hit.j0 : Nat → Int → ByteArray → ByteArray → Int → Bool → Option (ByteArray × Int × ByteArray × Int × Int × Bool)
 | 0, _, _, _, _, _ => none
 | k + 1, x0, x1, x7, x8, x30 => if x30 = true then (some ((⟨#[]⟩ : ByteArray), 0, (⟨#[]⟩ : ByteArray), 0, 0, false)) else ((tallboyref18_cut.f k x7).bind fun t185 => ((tallboyref15_Shows.f x0).bind fun t188 => (if t188 = true then (tallboyref18_hit.j1 k x1 x8 t185 5) else (tallboyref18_hit.j1 k x1 x8 t185 4))))
def tallboyref18_hit.j1 : Nat → ByteArray → Int → List ByteArray → Int → Option (ByteArray × Int × ByteArray × Int × Int × Bool)
 | 0, _, _, _, _ => none
 | k + 1, x1, x8, x10, x11 => if (x10.length : Int) = x11 then (if 0 < (x10.length : Int) then (if (rdOf ByteArray.empty x10 0).toList = ([86, 65, 76, 85, 69] : List UInt8) then (if 1 < (x10.length : Int) then ((tallboyref04_Key.f k (rdOf ByteArray.empty x10 1)).bind fun t191 => (tallboyref18_hit.j2 k x1 x8 x10 x11 (!t191))) else (none)) else (tallboyref18_hit.j2 k x1 x8 x10 x11 true)) else (none)) else (tallboyref18_hit.j2 k x1 x8 x10 x11 true)
def tallboyref18_hit.j2 : Nat → ByteArray → Int → List ByteArray → Int → Bool → Option (ByteArray × Int × ByteArray × Int × Int × Bool)
 | 0, _, _, _, _, _ => none
 | k + 1, x1, x8, x10, x11, x52 => if x52 = true then (some ((⟨#[]⟩ : ByteArray), 0, (⟨#[]⟩ : ByteArray), 0, 0, false)) else (if 2 < (x10.length : Int) then ((tallboyref18_number.f k (rdOf ByteArray.empty x10 2) 4294967295).bind fun bt193 => (if 3 < (x10.length : Int) then ((tallboyref18_number.f k (rdOf ByteArray.empty x10 3) 2000).bind fun bt196 => (if x11 = 5 then (if 4 < (x10.length : Int) then ((tallboyref18_number.f k (rdOf ByteArray.empty x10 4) 18446744073709551615).bind fun bt199 => (tallboyref18_hit.j3 k x1 x8 x10 bt193.1 bt193.2 bt196.1 bt196.2 bt199.1 bt199.2)) else (none)) else (tallboyref18_hit.j3 k x1 x8 x10 bt193.1 bt193.2 bt196.1 bt196.2 0 true))) else (none))) else (none))
def tallboyref18_hit.j3 : Nat → ByteArray → Int → List ByteArray → Int → Bool → Int → Bool → Int → Bool → Option (ByteArray × Int × ByteArray × Int × Int × Bool)
 | 0, _, _, _, _, _, _, _, _, _ => none
 | k + 1, x1, x8, x10, x12, x13, x14, x15, x16, x17 => if x13 = true then (if x15 = true then (if x17 = true then (if (wrap64 ((x1.size : Int) - x8)) < (wrap64 ((wrap64 (x14)) + 2)) then (tallboyref18_hit.j4 k x1 x8 x10 x12 x14 x16 true) else (if 0 ≤ (wrap64 (x8 + (wrap64 (x14)))) then (if (wrap64 (x8 + (wrap64 (x14)))) ≤ (wrap64 ((wrap64 (x8 + (wrap64 (x14)))) + 2)) then (if (wrap64 ((wrap64 (x8 + (wrap64 (x14)))) + 2)) ≤ (x1.size : Int) then (tallboyref18_hit.j4 k x1 x8 x10 x12 x14 x16 ((x1.extract ((wrap64 (x8 + (wrap64 (x14)))) : Int).toNat ((wrap64 ((wrap64 (x8 + (wrap64 (x14)))) + 2)) : Int).toNat).toList != ([13, 10] : List UInt8))) else (none)) else (none)) else (none))) else (tallboyref18_hit.j4 k x1 x8 x10 x12 x14 x16 true)) else (tallboyref18_hit.j4 k x1 x8 x10 x12 x14 x16 true)) else (tallboyref18_hit.j4 k x1 x8 x10 x12 x14 x16 true)
def tallboyref18_hit.j4 : Nat → ByteArray → Int → List ByteArray → Int → Int → Int → Bool → Option (ByteArray × Int × ByteArray × Int × Int × Bool)
 | 0, _, _, _, _, _, _, _ => none
 | k + 1, x1, x8, x10, x12, x14, x16, x110 => if x110 = true then (some ((⟨#[]⟩ : ByteArray), 0, (⟨#[]⟩ : ByteArray), 0, 0, false)) else (if 1 < (x10.length : Int) then (if 0 ≤ x8 then (if x8 ≤ (wrap64 (x8 + (wrap64 (x14)))) then (if (wrap64 (x8 + (wrap64 (x14)))) ≤ (x1.size : Int) then (some (rdOf ByteArray.empty x10 1, (x12) % 4294967296, x1.extract (x8 : Int).toNat ((wrap64 (x8 + (wrap64 (x14)))) : Int).toNat, x16, wrap64 ((wrap64 (x8 + (wrap64 (x14)))) + 2), true)) else (none)) else (none)) else (none)) else (none))
end
def tallboyref18_hit.f (k : Nat) (a0 : Int) (a1 : ByteArray) : Option (ByteArray × Int × ByteArray × Int × Int × Bool) := (tallboyref18_line.f k a1).bind fun bt182 => (if bt182.2.2 = true then (tallboyref18_hit.j0 k a0 a1 bt182.1 bt182.2.1 (decide ((bt182.1.size : Int) > 200))) else (tallboyref18_hit.j0 k a0 a1 bt182.1 bt182.2.1 true))
theorem tallboyref18_hit.mono_l : ∀ k, (∀ y0 y1 y2 y3 y4, LeO (tallboyref18_hit.j0 k y0 y1 y2 y3 y4) (tallboyref18_hit.j0 (k + 1) y0 y1 y2 y3 y4)) ∧ (∀ y0 y1 y2 y3, LeO (tallboyref18_hit.j1 k y0 y1 y2 y3) (tallboyref18_hit.j1 (k + 1) y0 y1 y2 y3)) ∧ (∀ y0 y1 y2 y3 y4, LeO (tallboyref18_hit.j2 k y0 y1 y2 y3 y4) (tallboyref18_hit.j2 (k + 1) y0 y1 y2 y3 y4)) ∧ (∀ y0 y1 y2 y3 y4 y5 y6 y7 y8, LeO (tallboyref18_hit.j3 k y0 y1 y2 y3 y4 y5 y6 y7 y8) (tallboyref18_hit.j3 (k + 1) y0 y1 y2 y3 y4 y5 y6 y7 y8)) ∧ (∀ y0 y1 y2 y3 y4 y5 y6, LeO (tallboyref18_hit.j4 k y0 y1 y2 y3 y4 y5 y6) (tallboyref18_hit.j4 (k + 1) y0 y1 y2 y3 y4 y5 y6))
 | 0 => ⟨fun _ _ _ _ _ r h => by simp [tallboyref18_hit.j0] at h, fun _ _ _ _ r h => by simp [tallboyref18_hit.j1] at h, fun _ _ _ _ _ r h => by simp [tallboyref18_hit.j2] at h, fun _ _ _ _ _ _ _ _ _ r h => by simp [tallboyref18_hit.j3] at h, fun _ _ _ _ _ _ _ r h => by simp [tallboyref18_hit.j4] at h⟩
 | k + 1 => by
  obtain ⟨ih0, ih1, ih2, ih3, ih4⟩ := tallboyref18_hit.mono_l k; refine ⟨?_, ?_, ?_, ?_, ?_⟩
  all_goals intros
  all_goals (first | unfold tallboyref18_hit.j0 | unfold tallboyref18_hit.j1 | unfold tallboyref18_hit.j2 | unfold tallboyref18_hit.j3 | unfold tallboyref18_hit.j4)
  all_goals repeat' first | (with_reducible first | apply ih0 | apply ih1 | apply ih2 | apply ih3 | apply ih4 | apply tallboyref04_Key.mono | apply tallboyref18_cut.mono | apply tallboyref18_line.mono | apply tallboyref18_number.mono | exact LeO.refl _ | exact LeO.none _ | refine LeO.ite ?_ ?_ | refine LeO.bind ?_ (fun _ => ?_)) | apply ih0 | apply ih1 | apply ih2 | apply ih3 | apply ih4 | apply tallboyref04_Key.mono | apply tallboyref18_cut.mono | apply tallboyref18_line.mono | apply tallboyref18_number.mono | exact LeO.none _ | refine LeO.ite ?_ ?_ | refine LeO.bind ?_ (fun _ => ?_)
theorem tallboyref18_hit.mono : ∀ a0 a1 k, LeO (tallboyref18_hit.f k a0 a1) (tallboyref18_hit.f (k + 1) a0 a1) := by
 intro a0 a1 k
 obtain ⟨ih0, ih1, ih2, ih3, ih4⟩ := tallboyref18_hit.mono_l k; unfold tallboyref18_hit.f
 repeat' first | (with_reducible first | apply ih0 | apply ih1 | apply ih2 | apply ih3 | apply ih4 | apply tallboyref04_Key.mono | apply tallboyref18_cut.mono | apply tallboyref18_line.mono | apply tallboyref18_number.mono | exact LeO.refl _ | exact LeO.none _ | refine LeO.ite ?_ ?_ | refine LeO.bind ?_ (fun _ => ?_)) | apply ih0 | apply ih1 | apply ih2 | apply ih3 | apply ih4 | apply tallboyref04_Key.mono | apply tallboyref18_cut.mono | apply tallboyref18_line.mono | apply tallboyref18_number.mono | exact LeO.none _ | refine LeO.ite ?_ ?_ | refine LeO.bind ?_ (fun _ => ?_)
def tallboyref18_hit.T17 : Bool × List (List Nat × List Nat) := (true, [([], []), ([0], [0]), ([1], [1]), ([], []), ([3], [3]), ([], []), ([], []), ([], []), ([], []), ([8], [8]), ([7, 9], [7, 9]), ([5, 6, 10], [5, 6, 10]), ([], []), ([2, 4, 11, 12], [2, 4, 11, 12]), ([], []), ([], []), ([15], [15]), ([14, 16], [14, 16]), ([17], [17]), ([13, 0, 1, 2, 3, 4, 5, 6, 7, 8, 9, 10, 11, 12, 13], [13]), ([18, 19, 0, 1, 2, 3, 4, 5, 6, 7, 8, 9, 10, 11, 12, 13, 14, 15, 16, 17, 18, 19], [18]), ([20, 0, 1, 2, 3, 4, 5, 6, 7, 8, 9, 10, 11, 12, 13, 14, 15, 16, 17, 18, 19, 20], [])])
def tallboyref18_hit.B17 : List Nat := [0, 1, 3, 0, 8, 0, 0, 0, 0, 256, 896, 2016, 0, 8191, 0, 0, 32768, 114688, 245760, 16383, 1048575, 2097151]
theorem tallboyref18_hit.tab17 : rtab .any (opsOf Tryd.f35 17) = tallboyref18_hit.T17 := by kernel_rfl
theorem tallboyref18_hit.bits17 : waitsOk tallboyref18_hit.T17.2 tallboyref18_hit.B17 = true := by kernel_rfl
set_option maxHeartbeats 8000000 in
set_option maxRecDepth 100000 in
theorem tallboyref18_hit.calls (k : Nat) (a0 : Int) (a1 : ByteArray) (r1 : ByteArray) (r2 : Int) (r3 : ByteArray) (r4 : Int) (r5 : Int) (r6 : Bool) (w : World) (h : tallboyref18_hit.f k a0 a1 = some (r1, r2, r3, r4, r5, r6)) :
  Calls Tryd.prog 35 #[.int .i64 a0, .string a1] w fun e w' => e = .returned (.tuple #[.agg #[.string r1, .int .u32 r2, .string r3, .int .u64 r4], .int .i64 r5, .bool r6]) ∧ Below w.heap.size w w' := by
 have hu47 := Tryd.underlying47; have HB := Aside0.mk (Below.refl w.heap.size w); have H : ((tallboyref18_line.f k a1).bind fun bt182 => (if bt182.2.2 = true then (tallboyref18_hit.j0 k a0 a1 bt182.1 bt182.2.1 (decide ((bt182.1.size : Int) > 200))) else (tallboyref18_hit.j0 k a0 a1 bt182.1 bt182.2.1 true))) = some (r1, r2, r3, r4, r5, r6) := h; clear h; replace H := Option.bind_eq_some_iff.mp H; obtain ⟨⟨t182, t183, t184⟩, A30, H⟩ := H; (try dsimp only at H); have A3 := Aside0.mk A30; clear A30; have HC4 := Aside0.mk H; clear H; go_enter Tryd.func35, Tryd.ntmps35
 go_upto_region 2 with (first | ((with_reducible refine gate_dst (N := 4) rfl ?_); (try (refine gate_guard (by rfl) ?_; dsimp only)); refine bE 4 #[.string (⟨#[]⟩ : ByteArray), .int .u32 0, .string (⟨#[]⟩ : ByteArray), .int .u64 0] 47 rfl rfl ?_; intro gb181 hg w5 hbox hb; have BK181 := rM hbox; have GW181 := rG HB hg; replace HB := rS HB hb; have GE181 := GW181; clear hb hbox hg) | ((with_reducible refine gate_callee (f := 33) rfl ?_); refine goesL_ (some 20) rfl rfl Tryd.func33 (by kernel_rfl) rfl #[.string a1] rfl (by (try simp only [List.map_toArray, List.map_cons, List.map_nil]); first | done | rfl | (simp only [List.length_drop, List.length_take]; rfl)) ?_; (with_reducible refine (tallboyref18_line.calls k a1 t182 t183 t184 _ A3.out).mono ?_); rintro e w' ⟨rfl, ⟨nd, rfl⟩⟩; refine ⟨_, rfl, ?_⟩))
 (try simp only [Act.put, sA, sB, sC])
 go_cut [30] (fun v30 wc => ∃ (kq : Nat) (x30_3 : Bool), v30 = .bool x30_3 ∧ Aside0 (tallboyref18_hit.j0 kq a0 a1 t182 t183 x30_3 = some (r1, r2, r3, r4, r5, r6)) ∧ Aside0 (kq ≤ k) ∧ Aside0 (wc.heap[gb181]? = some (.cells #[.string (⟨#[]⟩ : ByteArray), .int .u32 0, .string (⟨#[]⟩ : ByteArray), .int .u64 0] 47 (0, 0))) ∧ Aside0 (Below w.heap.size w wc))
 case first =>
  have H := HC4.out; clear HC4
  by_cases c6 : t184 = true
  ·subst c6; rw [if_pos rfl] at H; have H' := Aside0.mk H; clear H; go_wp2
   go_meet
   case rel => exact ⟨_, (decide ((t182.size : Int) > 200)), (by first | rfl | (simp; done) | (simp [*]; done)), H', ⟨by first | omega | exact Nat.le_refl _⟩, ⟨bK BK181.out⟩, ⟨bH HB.out⟩⟩
  ·replace c6 := Bool.eq_false_iff.mpr c6; subst c6; rw [if_neg (show ¬ (false = true) by decide)] at H; have H' := Aside0.mk H; clear H; go_wp2
   go_meet
   case rel => exact ⟨_, (true), (by first | rfl | (simp; done) | (simp [*]; done)), H', ⟨by first | omega | exact Nat.le_refl _⟩, ⟨bK BK181.out⟩, ⟨bH HB.out⟩⟩
 case rest =>
  clear HC4; (try clear c6); obtain ⟨kq, x30_3, rfl, HA, HJ3, BK181, HB⟩ := hcut; cases kq with
  | zero => exact absurd HA.out (by simp [tallboyref18_hit.j0])
  | succ kj3 =>
   have H := HA.out; clear HA; simp only [tallboyref18_hit.j0] at H
   by_cases c7 : x30_3 = true
   ·subst c7; rw [if_pos rfl] at H; simp only [Option.some.injEq, Prod.mk.injEq] at H; obtain ⟨rfl, rfl, rfl, rfl, rfl, rfl⟩ := H; obtain ⟨hcz8, hfz8⟩ := d4 BK181; go_wp2; refine bodyPost_ret (results_ctt rfl _ _ gb181 47 #[.string (⟨#[]⟩ : ByteArray), .int .u32 0, .string (⟨#[]⟩ : ByteArray), .int .u64 0] (0, 0) _ rfl (bV BK181.out) Tryd.underlying47 rfl (by kernel_rfl)) rfl ?_
    exact ⟨xR, bH HB.out⟩
   ·replace c7 := Bool.eq_false_iff.mpr c7; subst c7; rw [if_neg (show ¬ (false = true) by decide)] at H; replace H := Option.bind_eq_some_iff.mp H; obtain ⟨t185, A90, H⟩ := H; (try dsimp only at H); have A9 := Aside0.mk A90; clear A90; replace H := Option.bind_eq_some_iff.mp H; obtain ⟨t188, A100, H⟩ := H; (try dsimp only at H); have A10 := Aside0.mk A100; clear A100; have HC11 := Aside0.mk H; clear H
    go_upto_if 35 with (first | ((with_reducible refine gate_callee (f := 45) rfl ?_); refine goesL_ (some 33) rfl rfl Tryd.func45 (by kernel_rfl) rfl #[.string t182] rfl (by (try simp only [List.map_toArray, List.map_cons, List.map_nil]); first | done | rfl | (simp only [List.length_drop, List.length_take]; rfl)) ?_; (with_reducible refine (tallboyref18_cut.calls kj3 t182 t185 _ A9.out).mono ?_); rintro e w12 ⟨v186, rfl, ho0, hb⟩; refine ⟨_, rfl, ?_⟩; have HO187 := Aside0.mk (Kd.R_lower ho0 (below_size (bH HB.out))); replace BK181 := rB BK181 hb; replace HB := rS HB hb; (try clear hb); (try clear ho0)) | ((with_reducible refine gate_callee (f := 27) rfl ?_); refine goesL_ (some 35) rfl rfl Tryd.func27 (by kernel_rfl) rfl #[.int .i64 a0] rfl (by (try simp only [List.map_toArray, List.map_cons, List.map_nil]); first | done | rfl | (simp only [List.length_drop, List.length_take]; rfl)) ?_; (with_reducible refine (tallboyref15_Shows.calls a0 t188 _ A10.out).mono ?_); rintro e w' ⟨rfl, ⟨nd, rfl⟩⟩; refine ⟨_, rfl, ?_⟩))
    (try simp only [Act.put, sA, sB, sC])
    go_cut [11] (fun v11 wc => ∃ (kq : Nat) (x11_10 : Int), v11 = .int .i64 x11_10 ∧ Aside0 (tallboyref18_hit.j1 kq a1 t183 t185 x11_10 = some (r1, r2, r3, r4, r5, r6)) ∧ Aside0 (kq ≤ kj3) ∧ Aside0 (Kd.R Kd.string 9 wc w.heap.size (fun _ => True) v186 t185) ∧ Aside0 (wc.heap[gb181]? = some (.cells #[.string (⟨#[]⟩ : ByteArray), .int .u32 0, .string (⟨#[]⟩ : ByteArray), .int .u64 0] 47 (0, 0))) ∧ Aside0 (Below w.heap.size w wc))
    case first =>
     have H := HC11.out; clear HC11
     by_cases c13 : t188 = true
     ·subst c13; rw [if_pos rfl] at H; have H' := Aside0.mk H; clear H; go_wp2
      go_meet
      case rel => exact ⟨_, (5), (by first | rfl | (simp; done) | (simp [*]; done)), H', ⟨by have := HJ3.out; first | omega | exact Nat.le_refl _⟩, ⟨by (with_reducible repeat (first | apply Kd.R_alloc | apply Kd.R_drewN | apply Kd.R_drew)); exact HO187.out⟩, ⟨bK BK181.out⟩, ⟨bH HB.out⟩⟩
     ·replace c13 := Bool.eq_false_iff.mpr c13; subst c13; rw [if_neg (show ¬ (false = true) by decide)] at H; have H' := Aside0.mk H; clear H; go_wp2
      go_meet
      case rel => exact ⟨_, (4), (by first | rfl | (simp; done) | (simp [*]; done)), H', ⟨by have := HJ3.out; first | omega | exact Nat.le_refl _⟩, ⟨by (with_reducible repeat (first | apply Kd.R_alloc | apply Kd.R_drewN | apply Kd.R_drew)); exact HO187.out⟩, ⟨bK BK181.out⟩, ⟨bH HB.out⟩⟩
    case rest =>
     clear HC11; (try clear c6); (try clear c7); (try clear c13); (try clear hcz8); (try clear hfz8); obtain ⟨kq, x11_10, rfl, HA, HJ10, HO_10, BK181, HB⟩ := hcut; cases kq with
     | zero => exact absurd HA.out (by simp [tallboyref18_hit.j1])
     | succ kj10 =>
      have H := HA.out; clear HA; simp only [tallboyref18_hit.j1] at H; have HC14 := Aside0.mk H; clear H
      go_upto_region 8 with (fail)
      go_cut [52] (fun v52 wc => ∃ (kq : Nat) (x52_13 : Bool), v52 = .bool x52_13 ∧ Aside0 (tallboyref18_hit.j2 kq a1 t183 t185 x11_10 x52_13 = some (r1, r2, r3, r4, r5, r6)) ∧ Aside0 (kq ≤ kj10) ∧ Aside0 (Kd.R Kd.string 9 wc w.heap.size (fun _ => True) v186 t185) ∧ Aside0 (wc.heap[gb181]? = some (.cells #[.string (⟨#[]⟩ : ByteArray), .int .u32 0, .string (⟨#[]⟩ : ByteArray), .int .u64 0] 47 (0, 0))) ∧ Aside0 (Below w.heap.size w wc))
      case first =>
       have H := HC14.out; clear HC14
       by_cases c15 : (t185.length : Int) = x11_10
       ·rw [if_pos c15] at H; have c15b0 : ((t185.length : Int) == x11_10) = true := beq_iff_eq.mpr c15; have c15b1 : ((t185.length : Int) != x11_10) = false := bne_eq_false_iff_eq.mpr c15; clear c15
        (first | rw [c15b0] | (simp only [i64_w, i32_w]; rw [c15b0]) | skip)
        by_cases c16 : 0 < (t185.length : Int)
        ·rw [if_pos c16] at H; have c16b0 : decide (0 < (t185.length : Int)) = true := decide_eq_true c16; have c16b1 : decide (0 < t185.length) = true := decide_eq_true (by omega); clear c16
         by_cases c17 : (rdOf ByteArray.empty t185 0).toList = ([86, 65, 76, 85, 69] : List UInt8)
         ·rw [if_pos c17] at H; have c17b0 : ((rdOf ByteArray.empty t185 0).toList == ([86, 65, 76, 85, 69] : List UInt8)) = true := beq_iff_eq.mpr c17; have c17b1 : ((rdOf ByteArray.empty t185 0).toList != ([86, 65, 76, 85, 69] : List UInt8)) = false := bne_eq_false_iff_eq.mpr c17; clear c17
          by_cases c18 : 1 < (t185.length : Int)
          ·rw [if_pos c18] at H; have c18b0 : decide (1 < (t185.length : Int)) = true := decide_eq_true c18; have c18b1 : decide (1 < t185.length) = true := decide_eq_true (by omega); clear c18; replace H := Option.bind_eq_some_iff.mp H; obtain ⟨t191, A190, H⟩ := H; (try dsimp only at H); have A19 := Aside0.mk A190; clear A190; have H' := Aside0.mk H; clear H; obtain ⟨Ao20, co20, eo20⟩ := Kd.R_slice HO_10.out; subst eo20; have p189 : 0 ≤ (0 : Int) := (by omega); have q189 : 0 < (t185.length : Int) := of_decide_eq_true (by first | (with_reducible assumption) | assumption)
           obtain ⟨ad189, e189, hx189_0⟩ := Kd.at_string (Kd.R_reads' HO_10.out).2.2 0 p189 q189; cases e189; have qi189 : (0 < t185.length) = True := eq_true (by omega)
           (try rw [show ((0 : Int)).toNat = 0 from rfl] at hx189_0)
           (try rw [Addr.add_zero'] at hx189_0)
           replace p189 := eq_true p189; replace q189 := eq_true q189; have p190 : 0 ≤ (1 : Int) := (by omega); have q190 : 1 < (t185.length : Int) := of_decide_eq_true (by first | (with_reducible assumption) | assumption)
           obtain ⟨ad190, e190, hx190_0⟩ := Kd.at_string (Kd.R_reads' HO_10.out).2.2 1 p190 q190; obtain rfl : ad189 = ad190 := (by injection e190)
           (try simp only [show (1 : Int).toNat = 1 from rfl, Nat.reduceMul, Nat.reduceEqDiff, Go.Addr.add, ↓reduceIte] at hx190_0)
           have qi190 : (1 < t185.length) = True := eq_true (by omega)
           (try rw [show ((1 : Int)).toNat = 1 from rfl] at hx190_0)
           replace p190 := eq_true p190; replace q190 := eq_true q190
           go_wp2_with (first | (go_at_call 19; (with_reducible refine (tallboyref04_Key.calls kj10 (rdOf ByteArray.empty t185 1) t191 _ A19.out).mono ?_); rintro e w' ⟨rfl, ⟨nd, rfl⟩⟩))
           go_meet
           case rel => exact ⟨_, (!t191), (by first | rfl | (simp; done) | (simp [*]; done)), H', ⟨by have := HJ3.out; have := HJ10.out; first | omega | exact Nat.le_refl _⟩, ⟨by (with_reducible repeat (first | apply Kd.R_alloc | apply Kd.R_drewN | apply Kd.R_drew)); exact HO_10.out⟩, ⟨bK BK181.out⟩, ⟨bH HB.out⟩⟩
          ·rw [if_neg c18] at H; exact absurd H (by simp)
         ·rw [if_neg c17] at H; have c17b0 : ((rdOf ByteArray.empty t185 0).toList == ([86, 65, 76, 85, 69] : List UInt8)) = false := beq_eq_false_iff_ne.mpr c17; have c17b1 : ((rdOf ByteArray.empty t185 0).toList != ([86, 65, 76, 85, 69] : List UInt8)) = true := bne_iff_ne.mpr c17; have H' := Aside0.mk H; clear H; obtain ⟨Ao21, co21, eo21⟩ := Kd.R_slice HO_10.out; subst eo21; have p189 : 0 ≤ (0 : Int) := (by omega); have q189 : 0 < (t185.length : Int) := of_decide_eq_true (by first | (with_reducible assumption) | assumption)
          obtain ⟨ad189, e189, hx189_0⟩ := Kd.at_string (Kd.R_reads' HO_10.out).2.2 0 p189 q189; cases e189; have qi189 : (0 < t185.length) = True := eq_true (by omega)
          (try rw [show ((0 : Int)).toNat = 0 from rfl] at hx189_0)
          (try rw [Addr.add_zero'] at hx189_0)
          replace p189 := eq_true p189; replace q189 := eq_true q189; go_wp2
          go_meet
          case rel => exact ⟨_, (true), (by first | rfl | (simp; done) | (simp [*]; done)), H', ⟨by have := HJ3.out; have := HJ10.out; first | omega | exact Nat.le_refl _⟩, ⟨by (with_reducible repeat (first | apply Kd.R_alloc | apply Kd.R_drewN | apply Kd.R_drew)); exact HO_10.out⟩, ⟨bK BK181.out⟩, ⟨bH HB.out⟩⟩
        ·rw [if_neg c16] at H; exact absurd H (by simp)
       ·rw [if_neg c15] at H; have c15b0 : ((t185.length : Int) == x11_10) = false := beq_eq_false_iff_ne.mpr c15; have c15b1 : ((t185.length : Int) != x11_10) = true := bne_iff_ne.mpr c15
        (first | rw [c15b0] | (simp only [i64_w, i32_w]; rw [c15b0]) | skip)
        have H' := Aside0.mk H; clear H; obtain ⟨Ao22, co22, eo22⟩ := Kd.R_slice HO_10.out; subst eo22; go_wp2
        go_meet
        case rel => exact ⟨_, (true), (by first | rfl | (simp; done) | (simp [*]; done)), H', ⟨by have := HJ3.out; have := HJ10.out; first | omega | exact Nat.le_refl _⟩, ⟨by (with_reducible repeat (first | apply Kd.R_alloc | apply Kd.R_drewN | apply Kd.R_drew)); exact HO_10.out⟩, ⟨bK BK181.out⟩, ⟨bH HB.out⟩⟩
      case rest =>
       clear HC14; (try clear c6); (try clear c7); (try clear c13); (try clear c15); (try clear c15b0); (try clear c15b1); (try clear c16); (try clear c16b0); (try clear c16b1); (try clear c17); (try clear c17b0); (try clear c17b1); (try clear c18); (try clear c18b0); (try clear c18b1); (try clear hcz8); (try clear hfz8); (try clear hx189_0); (try clear hx190_0); (try clear p189); (try clear p190); (try clear q189); (try clear q190); obtain ⟨kq, x52_13, rfl, HA, HJ13, HO_10, BK181, HB⟩ := hcut; cases kq with
       | zero => exact absurd HA.out (by simp [tallboyref18_hit.j2])
       | succ kj13 =>
        have H := HA.out; clear HA; simp only [tallboyref18_hit.j2] at H
        by_cases c23 : x52_13 = true
        ·subst c23; rw [if_pos rfl] at H; simp only [Option.some.injEq, Prod.mk.injEq] at H; obtain ⟨rfl, rfl, rfl, rfl, rfl, rfl⟩ := H; obtain ⟨hcz24, hfz24⟩ := d4 BK181; go_wp2; refine bodyPost_ret (results_ctt rfl _ _ gb181 47 #[.string (⟨#[]⟩ : ByteArray), .int .u32 0, .string (⟨#[]⟩ : ByteArray), .int .u64 0] (0, 0) _ rfl (bV BK181.out) Tryd.underlying47 rfl (by kernel_rfl)) rfl ?_
         exact ⟨xR, bH HB.out⟩
        ·replace c23 := Bool.eq_false_iff.mpr c23; subst c23; rw [if_neg (show ¬ (false = true) by decide)] at H
         by_cases c25 : 2 < (t185.length : Int)
         ·rw [if_pos c25] at H; have c25b0 : decide (2 < (t185.length : Int)) = true := decide_eq_true c25; have c25b1 : decide (2 < t185.length) = true := decide_eq_true (by omega); clear c25; replace H := Option.bind_eq_some_iff.mp H; obtain ⟨⟨t193, t194⟩, A260, H⟩ := H; (try dsimp only at H); have A26 := Aside0.mk A260; clear A260
          by_cases c27 : 3 < (t185.length : Int)
          ·rw [if_pos c27] at H; have c27b0 : decide (3 < (t185.length : Int)) = true := decide_eq_true c27; have c27b1 : decide (3 < t185.length) = true := decide_eq_true (by omega); clear c27; replace H := Option.bind_eq_some_iff.mp H; obtain ⟨⟨t196, t197⟩, A280, H⟩ := H; (try dsimp only at H); have A28 := Aside0.mk A280; clear A280; have HC29 := Aside0.mk H; clear H; obtain ⟨Ao30, co30, eo30⟩ := Kd.R_slice HO_10.out; subst eo30; have p192 : 0 ≤ (2 : Int) := (by omega); have q192 : 2 < (t185.length : Int) := of_decide_eq_true (by first | (with_reducible assumption) | assumption)
           obtain ⟨ad192, e192, hx192_0⟩ := Kd.at_string (Kd.R_reads' HO_10.out).2.2 2 p192 q192; cases e192
           (try simp only [show (2 : Int).toNat = 2 from rfl, Nat.reduceMul, Nat.reduceEqDiff, Go.Addr.add, ↓reduceIte] at hx192_0)
           have qi192 : (2 < t185.length) = True := eq_true (by omega)
           (try rw [show ((2 : Int)).toNat = 2 from rfl] at hx192_0)
           replace p192 := eq_true p192; replace q192 := eq_true q192
           go_upto_if 69 with (first | ((with_reducible refine gate_callee (f := 34) rfl ?_); refine goesL_ (some 58) rfl rfl Tryd.func34 (by kernel_rfl) rfl #[.string (rdOf ByteArray.empty t185 2), .int .u64 4294967295] rfl (by (try simp only [List.map_toArray, List.map_cons, List.map_nil]); first | done | rfl | (simp only [List.length_drop, List.length_take]; rfl)) ?_; (with_reducible refine (tallboyref18_number.calls kj13 (rdOf ByteArray.empty t185 2) 4294967295 t193 t194 _ A26.out).mono ?_); rintro e w31 ⟨rfl, hb⟩; refine ⟨_, rfl, ?_⟩; replace HO_10 := Aside0.mk (Kd.R_below (by (with_reducible repeat (first | apply Kd.R_alloc | apply Kd.R_drewN | apply Kd.R_drew)); exact HO_10.out) hb); replace BK181 := rB BK181 hb; replace HB := rS HB hb; (try clear hb); have p195 : 0 ≤ (3 : Int) := (by omega); have q195 : 3 < (t185.length : Int) := of_decide_eq_true (by first | (with_reducible assumption) | assumption); obtain ⟨ad195, e195, hx195_0⟩ := Kd.at_string (Kd.R_reads' HO_10.out).2.2 3 p195 q195; obtain rfl : ad192 = ad195 := (by injection e195); (try simp only [show (3 : Int).toNat = 3 from rfl, Nat.reduceMul, Nat.reduceEqDiff, Go.Addr.add, ↓reduceIte] at hx195_0); have qi195 : (3 < t185.length) = True := eq_true (by omega); (try rw [show ((3 : Int)).toNat = 3 from rfl] at hx195_0); replace p195 := eq_true p195; replace q195 := eq_true q195) | ((with_reducible refine gate_callee (f := 34) rfl ?_); refine goesL_ (some 65) rfl rfl Tryd.func34 (by kernel_rfl) rfl #[.string (rdOf ByteArray.empty t185 3), .int .u64 2000] rfl (by (try simp only [List.map_toArray, List.map_cons, List.map_nil]); first | done | rfl | (simp only [List.length_drop, List.length_take]; rfl)) ?_; (with_reducible refine (tallboyref18_number.calls kj13 (rdOf ByteArray.empty t185 3) 2000 t196 t197 _ A28.out).mono ?_); rintro e w32 ⟨rfl, hb⟩; refine ⟨_, rfl, ?_⟩; replace HO_10 := Aside0.mk (Kd.R_below (by (with_reducible repeat (first | apply Kd.R_alloc | apply Kd.R_drewN | apply Kd.R_drew)); exact HO_10.out) hb); replace BK181 := rB BK181 hb; replace HB := rS HB hb; (try clear hb); ))
           (try simp only [Act.put, sA, sB, sC])
           go_cut [16, 17] (fun v16 v17 wc => ∃ (kq : Nat) (x16_28 : Int) (x17_28 : Bool), v16 = .int .u64 x16_28 ∧ v17 = .bool x17_28 ∧ Aside0 (tallboyref18_hit.j3 kq a1 t183 t185 t193 t194 t196 t197 x16_28 x17_28 = some (r1, r2, r3, r4, r5, r6)) ∧ Aside0 (kq ≤ kj13) ∧ Aside0 (Kd.R Kd.string 9 wc w.heap.size (fun _ => True) (.slice (some ad192) t185.length co30) t185) ∧ Aside0 (wc.heap[gb181]? = some (.cells #[.string (⟨#[]⟩ : ByteArray), .int .u32 0, .string (⟨#[]⟩ : ByteArray), .int .u64 0] 47 (0, 0))) ∧ Aside0 (Below w.heap.size w wc))
           case first =>
            have H := HC29.out; clear HC29
            by_cases c33 : x11_10 = 5
            ·rw [if_pos c33] at H; have c33b0 : (x11_10 == 5) = true := beq_iff_eq.mpr c33; have c33b1 : (x11_10 != 5) = false := bne_eq_false_iff_eq.mpr c33; clear c33
             (first | rw [c33b0] | (simp only [i64_w, i32_w]; rw [c33b0]) | skip)
             by_cases c34 : 4 < (t185.length : Int)
             ·rw [if_pos c34] at H; have c34b0 : decide (4 < (t185.length : Int)) = true := decide_eq_true c34; have c34b1 : decide (4 < t185.length) = true := decide_eq_true (by omega); clear c34; replace H := Option.bind_eq_some_iff.mp H; obtain ⟨⟨t199, t200⟩, A350, H⟩ := H; (try dsimp only at H); have A35 := Aside0.mk A350; clear A350; have H' := Aside0.mk H; clear H; have p198 : 0 ≤ (4 : Int) := (by omega); have q198 : 4 < (t185.length : Int) := of_decide_eq_true (by first | (with_reducible assumption) | assumption)
              obtain ⟨ad198, e198, hx198_0⟩ := Kd.at_string (Kd.R_reads' HO_10.out).2.2 4 p198 q198; obtain rfl : ad192 = ad198 := (by injection e198)
              (try simp only [show (4 : Int).toNat = 4 from rfl, Nat.reduceMul, Nat.reduceEqDiff, Go.Addr.add, ↓reduceIte] at hx198_0)
              have qi198 : (4 < t185.length) = True := eq_true (by omega)
              (try rw [show ((4 : Int)).toNat = 4 from rfl] at hx198_0)
              replace p198 := eq_true p198; replace q198 := eq_true q198
              go_wp2_with (first | ((with_reducible refine gate_callee (f := 34) rfl ?_); refine goesL_ (some 74) rfl rfl Tryd.func34 (by kernel_rfl) rfl #[.string (rdOf ByteArray.empty t185 4), .int .u64 18446744073709551615] rfl (by (try simp only [List.map_toArray, List.map_cons, List.map_nil]); first | done | rfl | (simp only [List.length_drop, List.length_take]; rfl)) ?_; (with_reducible refine (tallboyref18_number.calls kj13 (rdOf ByteArray.empty t185 4) 18446744073709551615 t199 t200 _ A35.out).mono ?_); rintro e w36 ⟨rfl, hb⟩; refine ⟨_, rfl, ?_⟩; replace HO_10 := Aside0.mk (Kd.R_below (by (with_reducible repeat (first | apply Kd.R_alloc | apply Kd.R_drewN | apply Kd.R_drew)); exact HO_10.out) hb); replace BK181 := rB BK181 hb; replace HB := rS HB hb; (try clear hb); ))
              go_meet
              case rel => exact ⟨_, (t199), (t200), (by first | rfl | (simp; done) | (simp [*]; done)), (by first | rfl | (simp; done) | (simp [*]; done)), H', ⟨by have := HJ3.out; have := HJ10.out; have := HJ13.out; first | omega | exact Nat.le_refl _⟩, ⟨by (with_reducible repeat (first | apply Kd.R_alloc | apply Kd.R_drewN | apply Kd.R_drew)); exact HO_10.out⟩, ⟨bK BK181.out⟩, ⟨bH HB.out⟩⟩
             ·rw [if_neg c34] at H; exact absurd H (by simp)
            ·rw [if_neg c33] at H; have c33b0 : (x11_10 == 5) = false := beq_eq_false_iff_ne.mpr c33; have c33b1 : (x11_10 != 5) = true := bne_iff_ne.mpr c33
             (first | rw [c33b0] | (simp only [i64_w, i32_w]; rw [c33b0]) | skip)
             have H' := Aside0.mk H; clear H; go_wp2
             go_meet
             case rel => exact ⟨_, (0), (true), (by first | rfl | (simp; done) | (simp [*]; done)), (by first | rfl | (simp; done) | (simp [*]; done)), H', ⟨by have := HJ3.out; have := HJ10.out; have := HJ13.out; first | omega | exact Nat.le_refl _⟩, ⟨by (with_reducible repeat (first | apply Kd.R_alloc | apply Kd.R_drewN | apply Kd.R_drew)); exact HO_10.out⟩, ⟨bK BK181.out⟩, ⟨bH HB.out⟩⟩
           case rest =>
            clear HC29; (try clear c6); (try clear c7); (try clear c13); (try clear c15); (try clear c15b0); (try clear c15b1); (try clear c16); (try clear c16b0); (try clear c16b1); (try clear c17); (try clear c17b0); (try clear c17b1); (try clear c18); (try clear c18b0); (try clear c18b1); (try clear c23); (try clear c25); (try clear c25b0); (try clear c25b1); (try clear c27); (try clear c27b0); (try clear c27b1); (try clear c33); (try clear c33b0); (try clear c33b1); (try clear c34); (try clear c34b0); (try clear c34b1); (try clear hcz24); (try clear hcz8); (try clear hfz24); (try clear hfz8); (try clear hx189_0); (try clear hx190_0); (try clear hx192_0); (try clear hx195_0); (try clear hx198_0); (try clear p189); (try clear p190); (try clear p192); (try clear p195); (try clear p198); (try clear q189); (try clear q190); (try clear q192); (try clear q195); (try clear q198); obtain ⟨kq, x16_28, x17_28, rfl, rfl, HA, HJ28, HO_10, BK181, HB⟩ := hcut; cases kq with
            | zero => exact absurd HA.out (by simp [tallboyref18_hit.j3])
            | succ kj28 =>
             have H := HA.out; clear HA; simp only [tallboyref18_hit.j3] at H; have HC37 := Aside0.mk H; clear H
             go_upto_region 15 with (fail)
             go_cut [110] (fun v110 wc => ∃ (kq : Nat) (x110_36 : Bool), v110 = .bool x110_36 ∧ Aside0 (tallboyref18_hit.j4 kq a1 t183 t185 t193 t196 x16_28 x110_36 = some (r1, r2, r3, r4, r5, r6)) ∧ Aside0 (kq ≤ kj28) ∧ Aside0 (Kd.R Kd.string 9 wc w.heap.size (fun _ => True) (.slice (some ad192) t185.length co30) t185) ∧ Aside0 (wc.heap[gb181]? = some (.cells #[.string (⟨#[]⟩ : ByteArray), .int .u32 0, .string (⟨#[]⟩ : ByteArray), .int .u64 0] 47 (0, 0))) ∧ Aside0 (Below w.heap.size w wc))
             case first =>
              have H := HC37.out; clear HC37
              by_cases c38 : t194 = true
              ·subst c38; rw [if_pos rfl] at H
               by_cases c39 : t197 = true
               ·subst c39; rw [if_pos rfl] at H
                by_cases c40 : x17_28 = true
                ·subst c40; rw [if_pos rfl] at H
                 by_cases c41 : (wrap64 ((a1.size : Int) - t183)) < (wrap64 ((wrap64 (t196)) + 2))
                 ·rw [if_pos c41] at H; have c41b0 : decide ((wrap64 ((a1.size : Int) - t183)) < (wrap64 ((wrap64 (t196)) + 2))) = true := decide_eq_true c41; clear c41
                  (first | rw [c41b0] | (simp only [i64_w, i32_w]; rw [c41b0]) | skip)
                  have H' := Aside0.mk H; clear H; go_wp2
                  go_meet
                  case rel => exact ⟨_, (true), (by first | rfl | (simp; done) | (simp [*]; done)), H', ⟨by have := HJ3.out; have := HJ10.out; have := HJ13.out; have := HJ28.out; first | omega | exact Nat.le_refl _⟩, ⟨by (with_reducible repeat (first | apply Kd.R_alloc | apply Kd.R_drewN | apply Kd.R_drew)); exact HO_10.out⟩, ⟨bK BK181.out⟩, ⟨bH HB.out⟩⟩
                 ·rw [if_neg c41] at H; have c41b0 : decide ((wrap64 ((a1.size : Int) - t183)) < (wrap64 ((wrap64 (t196)) + 2))) = false := decide_eq_false c41; clear c41
                  (first | rw [c41b0] | (simp only [i64_w, i32_w]; rw [c41b0]) | skip)
                  obtain ⟨ji42, hji42⟩ : ∃ j_ : Int, (wrap64 (t183 + (wrap64 (t196)))) = j_ := ⟨_, rfl⟩; replace H : (if 0 ≤ (ji42) then (if (ji42) ≤ (wrap64 ((ji42) + 2)) then (if (wrap64 ((ji42) + 2)) ≤ (a1.size : Int) then (tallboyref18_hit.j4 kj28 a1 t183 t185 t193 t196 x16_28 ((a1.extract ((ji42) : Int).toNat ((wrap64 ((ji42) + 2)) : Int).toNat).toList != ([13, 10] : List UInt8))) else (none)) else (none)) else (none)) = some (r1, r2, r3, r4, r5, r6) := by first | (rw [hji42] at H; exact H) | (simp only [hji42] at H ⊢; exact H)
                  have hji42w : (IntKind.i64.wrap (t183 + (wrap64 (t196)))) = ji42 := (i64_w _).trans hji42
                  by_cases c43 : 0 ≤ (ji42)
                  ·rw [if_pos c43] at H; have c43b0 := eq_true c43; have c43b1 : decide (0 ≤ (ji42)) = true := decide_eq_true c43; clear c43
                   by_cases c44 : (ji42) ≤ (wrap64 ((ji42) + 2))
                   ·rw [if_pos c44] at H; have c44b0 := eq_true c44; have c44b1 : decide ((ji42) ≤ (wrap64 ((ji42) + 2))) = true := decide_eq_true c44
                    by_cases c45 : (wrap64 ((ji42) + 2)) ≤ (a1.size : Int)
                    ·rw [if_pos c45] at H; have c45b0 := eq_true c45; have c45b1 : decide ((wrap64 ((ji42) + 2)) ≤ (a1.size : Int)) = true := decide_eq_true c45; have H' := Aside0.mk H; clear H; go_wp2
                     go_meet
                     case rel => exact ⟨_, (((a1.extract ((ji42) : Int).toNat ((wrap64 ((ji42) + 2)) : Int).toNat).toList != ([13, 10] : List UInt8))), (by first | rfl | (simp; done) | (simp only [← hji42] <;> (first | rfl | simp)) | (simp [*]; done)), H', ⟨by have := HJ3.out; have := HJ10.out; have := HJ13.out; have := HJ28.out; first | omega | exact Nat.le_refl _⟩, ⟨by (with_reducible repeat (first | apply Kd.R_alloc | apply Kd.R_drewN | apply Kd.R_drew)); exact HO_10.out⟩, ⟨bK BK181.out⟩, ⟨bH HB.out⟩⟩
                    ·rw [if_neg c45] at H; exact absurd H (by simp)
                   ·rw [if_neg c44] at H; exact absurd H (by simp)
                  ·rw [if_neg c43] at H; exact absurd H (by simp)
                ·replace c40 := Bool.eq_false_iff.mpr c40; subst c40; rw [if_neg (show ¬ (false = true) by decide)] at H; have H' := Aside0.mk H; clear H; go_wp2
                 go_meet
                 case rel => exact ⟨_, (true), (by first | rfl | (simp; done) | (simp [*]; done)), H', ⟨by have := HJ3.out; have := HJ10.out; have := HJ13.out; have := HJ28.out; first | omega | exact Nat.le_refl _⟩, ⟨by (with_reducible repeat (first | apply Kd.R_alloc | apply Kd.R_drewN | apply Kd.R_drew)); exact HO_10.out⟩, ⟨bK BK181.out⟩, ⟨bH HB.out⟩⟩
               ·replace c39 := Bool.eq_false_iff.mpr c39; subst c39; rw [if_neg (show ¬ (false = true) by decide)] at H; have H' := Aside0.mk H; clear H; go_wp2
                go_meet
                case rel => exact ⟨_, (true), (by first | rfl | (simp; done) | (simp [*]; done)), H', ⟨by have := HJ3.out; have := HJ10.out; have := HJ13.out; have := HJ28.out; first | omega | exact Nat.le_refl _⟩, ⟨by (with_reducible repeat (first | apply Kd.R_alloc | apply Kd.R_drewN | apply Kd.R_drew)); exact HO_10.out⟩, ⟨bK BK181.out⟩, ⟨bH HB.out⟩⟩
              ·replace c38 := Bool.eq_false_iff.mpr c38; subst c38; rw [if_neg (show ¬ (false = true) by decide)] at H; have H' := Aside0.mk H; clear H; go_wp2
               go_meet
               case rel => exact ⟨_, (true), (by first | rfl | (simp; done) | (simp [*]; done)), H', ⟨by have := HJ3.out; have := HJ10.out; have := HJ13.out; have := HJ28.out; first | omega | exact Nat.le_refl _⟩, ⟨by (with_reducible repeat (first | apply Kd.R_alloc | apply Kd.R_drewN | apply Kd.R_drew)); exact HO_10.out⟩, ⟨bK BK181.out⟩, ⟨bH HB.out⟩⟩
             case rest =>
              clear HC37; (try clear c6); (try clear c7); (try clear c13); (try clear c15); (try clear c15b0); (try clear c15b1); (try clear c16); (try clear c16b0); (try clear c16b1); (try clear c17); (try clear c17b0); (try clear c17b1); (try clear c18); (try clear c18b0); (try clear c18b1); (try clear c23); (try clear c25); (try clear c25b0); (try clear c25b1); (try clear c27); (try clear c27b0); (try clear c27b1); (try clear c33); (try clear c33b0); (try clear c33b1); (try clear c34); (try clear c34b0); (try clear c34b1); (try clear c38); (try clear c39); (try clear c40); (try clear c41b0); (try clear c43); (try clear c43b0); (try clear c43b1); (try clear c44); (try clear c44b0); (try clear c44b1); (try clear c45); (try clear c45b0); (try clear c45b1); (try clear hcz24); (try clear hcz8); (try clear hfz24); (try clear hfz8); (try clear hx189_0); (try clear hx190_0); (try clear hx192_0); (try clear hx195_0); (try clear hx198_0); (try clear p189); (try clear p190); (try clear p192); (try clear p195); (try clear p198); (try clear q189); (try clear q190); (try clear q192); (try clear q195); (try clear q198); obtain ⟨kq, x110_36, rfl, HA, HJ36, HO_10, BK181, HB⟩ := hcut; cases kq with
              | zero => exact absurd HA.out (by simp [tallboyref18_hit.j4])
              | succ kj36 =>
               have H := HA.out; clear HA; simp only [tallboyref18_hit.j4] at H
               by_cases c46 : x110_36 = true
               ·subst c46; rw [if_pos rfl] at H; simp only [Option.some.injEq, Prod.mk.injEq] at H; obtain ⟨rfl, rfl, rfl, rfl, rfl, rfl⟩ := H; obtain ⟨hcz47, hfz47⟩ := d4 BK181; go_wp2; refine bodyPost_ret (results_ctt rfl _ _ gb181 47 #[.string (⟨#[]⟩ : ByteArray), .int .u32 0, .string (⟨#[]⟩ : ByteArray), .int .u64 0] (0, 0) _ rfl (bV BK181.out) Tryd.underlying47 rfl (by kernel_rfl)) rfl ?_
                exact ⟨xR, bH HB.out⟩
               ·replace c46 := Bool.eq_false_iff.mpr c46; subst c46; rw [if_neg (show ¬ (false = true) by decide)] at H
                by_cases c48 : 1 < (t185.length : Int)
                ·rw [if_pos c48] at H; have c48b0 : decide (1 < (t185.length : Int)) = true := decide_eq_true c48; have c48b1 : decide (1 < t185.length) = true := decide_eq_true (by omega); clear c48
                 by_cases c49 : 0 ≤ t183
                 ·rw [if_pos c49] at H; have c49b0 := eq_true c49; have c49b1 : decide (0 ≤ t183) = true := decide_eq_true c49; clear c49
                  by_cases c50 : t183 ≤ (wrap64 (t183 + (wrap64 (t196))))
                  ·rw [if_pos c50] at H; have c50b0 := eq_true c50; have c50b1 : decide (t183 ≤ (wrap64 (t183 + (wrap64 (t196))))) = true := decide_eq_true c50
                   by_cases c51 : (wrap64 (t183 + (wrap64 (t196)))) ≤ (a1.size : Int)
                   ·rw [if_pos c51] at H; have c51b0 := eq_true c51; have c51b1 : decide ((wrap64 (t183 + (wrap64 (t196)))) ≤ (a1.size : Int)) = true := decide_eq_true c51; simp only [Option.some.injEq, Prod.mk.injEq] at H; obtain ⟨rfl, rfl, rfl, rfl, rfl, rfl⟩ := H
                    try go_wp2
                    replace HO_10 := Aside0.mk (Kd.R_drew HO_10.out); replace BK181 := Aside0.mk (bD BK181.out); replace HB := Aside0.mk (eD HB.out); have p201 : 0 ≤ (1 : Int) := (by omega); have q201 : 1 < (t185.length : Int) := of_decide_eq_true (by first | (with_reducible assumption) | assumption)
                    obtain ⟨ad201, e201, hx201_0⟩ := Kd.at_string (Kd.R_reads' HO_10.out).2.2 1 p201 q201; obtain rfl : ad192 = ad201 := (by injection e201)
                    (try simp only [show (1 : Int).toNat = 1 from rfl, Nat.reduceMul, Nat.reduceEqDiff, Go.Addr.add, ↓reduceIte] at hx201_0)
                    have qi201 : (1 < t185.length) = True := eq_true (by omega)
                    (try rw [show ((1 : Int)).toNat = 1 from rfl] at hx201_0)
                    replace p201 := eq_true p201; replace q201 := eq_true q201; refine start_ (n := 22) (S := fun w' => w'.cell? ⟨ad192.block, ad192.off + 1, none⟩ = some (.string (rdOf ByteArray.empty t185 1))) (ds := []) #[false, false, false, false, false, false, false, false, false, false, false, false, false, false, false, false, false, false, false, false, false, false] (by kernel_rfl) rfl rfl (hx201_0) (fun hHeld => ?_); refine with_tabW tallboyref18_hit.tab17 tallboyref18_hit.bits17 (fun HT_ HW_ => ?_)
                    generalize wc.drew = w52 at HO_10 BK181 HB hx201_0 hHeld ⊢; refine pU HT_ 0 (some 112) ?_ #[true, false, false, false, false, false, false, false, false, false, false, false, false, false, false, false, false, false, false, false, false, false] rfl rfl ?_ ?_ ?_ ?_
                    rotate_left
                    ·intro w'
                     go_simp
                     with_reducible rfl
                    rotate_left
                    ·simp only [Act.put, sA, sB, sC, i64_w, i32_w]
                     rfl
                    refine pU HT_ 1 (some 113) ?_ #[true, true, false, false, false, false, false, false, false, false, false, false, false, false, false, false, false, false, false, false, false, false] rfl rfl ?_ ?_ ?_ ?_
                    rotate_left
                    ·intro w'
                     go_simp
                     with_reducible rfl
                    rotate_left
                    ·simp only [Act.put, sA, sB, sC, i64_w, i32_w]
                     rfl
                    refine pU HT_ 3 (some 115) ?_ #[true, true, false, true, false, false, false, false, false, false, false, false, false, false, false, false, false, false, false, false, false, false] rfl rfl ?_ ?_ ?_ ?_
                    rotate_left
                    ·intro w'
                     go_simp
                     with_reducible rfl
                    rotate_left
                    ·simp only [Act.put, sA, sB, sC, i64_w, i32_w]
                     rfl
                    refine pU HT_ 4 (some 116) ?_ #[true, true, false, true, true, false, false, false, false, false, false, false, false, false, false, false, false, false, false, false, false, false] rfl rfl ?_ ?_ ?_ ?_
                    rotate_left
                    ·intro w'
                     go_simp
                     with_reducible rfl
                    rotate_left
                    ·simp only [Act.put, sA, sB, sC, i64_w, i32_w]
                     rfl
                    refine pU HT_ 5 (some 117) ?_ #[true, true, false, true, true, true, false, false, false, false, false, false, false, false, false, false, false, false, false, false, false, false] rfl rfl ?_ ?_ ?_ ?_
                    rotate_left
                    ·intro w'
                     go_simp
                     with_reducible rfl
                    rotate_left
                    ·simp only [Act.put, sA, sB, sC, i64_w, i32_w]
                     rfl
                    refine pU HT_ 6 (some 118) ?_ #[true, true, false, true, true, true, true, false, false, false, false, false, false, false, false, false, false, false, false, false, false, false] rfl rfl ?_ ?_ ?_ ?_
                    rotate_left
                    ·intro w'
                     go_simp
                     with_reducible rfl
                    rotate_left
                    ·simp only [Act.put, sA, sB, sC, i64_w, i32_w]
                     rfl
                    refine pU HT_ 7 (some 119) ?_ #[true, true, false, true, true, true, true, true, false, false, false, false, false, false, false, false, false, false, false, false, false, false] rfl rfl ?_ ?_ ?_ ?_
                    rotate_left
                    ·intro w'
                     go_simp
                     with_reducible rfl
                    rotate_left
                    ·simp only [Act.put, sA, sB, sC, i64_w, i32_w]
                     rfl
                    refine pU HT_ 8 (some 120) ?_ #[true, true, false, true, true, true, true, true, true, false, false, false, false, false, false, false, false, false, false, false, false, false] rfl rfl ?_ ?_ ?_ ?_
                    rotate_left
                    ·intro w'
                     go_simp
                     with_reducible rfl
                    rotate_left
                    ·simp only [Act.put, sA, sB, sC, i64_w, i32_w]
                     rfl
                    refine pU HT_ 9 (some 121) ?_ #[true, true, false, true, true, true, true, true, true, true, false, false, false, false, false, false, false, false, false, false, false, false] rfl rfl ?_ ?_ ?_ ?_
                    rotate_left
                    ·intro w'
                     go_simp
                     with_reducible rfl
                    rotate_left
                    ·simp only [Act.put, sA, sB, sC, i64_w, i32_w]
                     rfl
                    refine pU HT_ 10 (some 122) ?_ #[true, true, false, true, true, true, true, true, true, true, true, false, false, false, false, false, false, false, false, false, false, false] rfl rfl ?_ ?_ ?_ ?_
                    rotate_left
                    ·intro w'
                     go_simp
                     with_reducible rfl
                    rotate_left
                    ·simp only [Act.put, sA, sB, sC, i64_w, i32_w]
                     rfl
                    refine pU HT_ 11 (some 123) ?_ #[true, true, false, true, true, true, true, true, true, true, true, true, false, false, false, false, false, false, false, false, false, false] rfl rfl ?_ ?_ ?_ ?_
                    rotate_left
                    ·intro w'
                     go_simp
                     with_reducible rfl
                    rotate_left
                    ·simp only [Act.put, sA, sB, sC, i64_w, i32_w]
                     rfl
                    refine pU HT_ 12 (some 124) ?_ #[true, true, false, true, true, true, true, true, true, true, true, true, true, false, false, false, false, false, false, false, false, false] rfl rfl ?_ ?_ ?_ ?_
                    rotate_left
                    ·intro w'
                     go_simp
                     with_reducible rfl
                    rotate_left
                    ·simp only [Act.put, sA, sB, sC, i64_w, i32_w]
                     rfl
                    refine pU HT_ 14 (some 126) ?_ #[true, true, false, true, true, true, true, true, true, true, true, true, true, false, true, false, false, false, false, false, false, false] rfl rfl ?_ ?_ ?_ ?_
                    rotate_left
                    ·intro w'
                     go_simp
                     with_reducible rfl
                    rotate_left
                    ·simp only [Act.put, sA, sB, sC, i64_w, i32_w]
                     rfl
                    refine pU HT_ 15 (some 127) ?_ #[true, true, false, true, true, true, true, true, true, true, true, true, true, false, true, true, false, false, false, false, false, false] rfl rfl ?_ ?_ ?_ ?_
                    rotate_left
                    ·intro w'
                     go_simp
                     with_reducible rfl
                    rotate_left
                    ·simp only [Act.put, sA, sB, sC, i64_w, i32_w]
                     rfl
                    refine pU HT_ 16 (some 128) ?_ #[true, true, false, true, true, true, true, true, true, true, true, true, true, false, true, true, true, false, false, false, false, false] rfl rfl ?_ ?_ ?_ ?_
                    rotate_left
                    ·intro w'
                     go_simp
                     with_reducible rfl
                    rotate_left
                    ·simp only [Act.put, sA, sB, sC, i64_w, i32_w]
                     rfl
                    refine pU HT_ 17 (some 129) ?_ #[true, true, false, true, true, true, true, true, true, true, true, true, true, false, true, true, true, true, false, false, false, false] rfl rfl ?_ ?_ ?_ ?_
                    rotate_left
                    ·intro w'
                     go_simp
                     with_reducible rfl
                    rotate_left
                    ·simp only [Act.put, sA, sB, sC, i64_w, i32_w]
                     rfl
                    refine pU HT_ 18 (some 130) ?_ #[true, true, false, true, true, true, true, true, true, true, true, true, true, false, true, true, true, true, true, false, false, false] rfl rfl ?_ ?_ ?_ ?_
                    rotate_left
                    ·intro w'
                     go_simp
                     with_reducible rfl
                    rotate_left
                    ·simp only [Act.put, sA, sB, sC, i64_w, i32_w]
                     rfl
                    refine tU HT_ HW_ hHeld 2 (some 114) ?_ #[true, true, true, true, true, true, true, true, true, true, true, true, true, false, true, true, true, true, true, false, false, false] rfl rfl ?_ ?_ ?_ ?_
                    rotate_left
                    ·intro w' s0
                     go_simp
                     with_reducible rfl
                    rotate_left
                    ·simp only [Act.put, sA, sB, sC, i64_w, i32_w]
                     rfl
                    refine pU HT_ 13 (some 125) ?_ #[true, true, true, true, true, true, true, true, true, true, true, true, true, true, true, true, true, true, true, false, false, false] rfl rfl ?_ ?_ ?_ ?_
                    rotate_left
                    ·intro w'
                     go_simp
                     with_reducible rfl
                    rotate_left
                    ·simp only [Act.put, sA, sB, sC, i64_w, i32_w]
                     rfl
                    refine one_ (i := 19) (N := none) #[true, true, true, true, true, true, true, true, true, true, true, true, true, true, true, true, true, true, true, true, false, false] rfl rfl (one_of HT_.out (by kernel_rfl)) (by decide) (fun K hK => ?_)
                    have hs53 : w52.cell? ⟨gb181, 0, none⟩ = some (.string (⟨#[]⟩ : ByteArray)) := (blk_cell BK181.out 0).trans rfl; have hfs53 := blk_frozen BK181.out 0; have hs54 : w52.cell? ⟨gb181, 1, none⟩ = some (.int .u32 0) := (blk_cell BK181.out 1).trans rfl; have hfs54 := blk_frozen BK181.out 1; have hs55 : w52.cell? ⟨gb181, 2, none⟩ = some (.string (⟨#[]⟩ : ByteArray)) := (blk_cell BK181.out 2).trans rfl; have hfs55 := blk_frozen BK181.out 2; have hs56 : w52.cell? ⟨gb181, 3, none⟩ = some (.int .u64 0) := (blk_cell BK181.out 3).trans rfl; have hfs56 := blk_frozen BK181.out 3; refine skip_ (w1 := ?_) (by rfl) rfl ?_ ?_
                    rotate_left
                    ·go_simp
                     rfl
                    have hne_ := Kd.own_blk (Kd.R_ne HO_10.out BK181.out (by decide)); refine hK.out _ _ (by refine (cell_far (p := ⟨gb181, 3, none⟩) (by exact hne_) _).trans ?_; refine (cell_far (p := ⟨gb181, 2, none⟩) (by exact hne_) _).trans ?_; refine (cell_far (p := ⟨gb181, 1, none⟩) (by exact hne_) _).trans ?_; refine (cell_far (p := ⟨gb181, 0, none⟩) (by exact hne_) _).trans ?_; exact hHeld) (fun hHeld => ?_)
                    clear hK K; refine pU HT_ 20 (some 5) ?_ #[true, true, true, true, true, true, true, true, true, true, true, true, true, true, true, true, true, true, true, true, true, false] rfl rfl ?_ ?_ ?_ ?_
                    rotate_left
                    ·intro w'
                     go_simp
                     with_reducible rfl
                    rotate_left
                    ·simp only [Act.put, sA, sB, sC, i64_w, i32_w]
                     rfl
                    refine pU HT_ 21 (some 6) ?_ #[true, true, true, true, true, true, true, true, true, true, true, true, true, true, true, true, true, true, true, true, true, true] rfl rfl ?_ ?_ ?_ ?_
                    rotate_left
                    ·intro w'
                     go_simp
                     with_reducible rfl
                    rotate_left
                    ·simp only [Act.put, sA, sB, sC, i64_w, i32_w]
                     rfl
                    refine done_ (done_of HT_.out (by kernel_rfl)) ?_
                    try go_wp2
                    refine bodyPost_ret (results_ctt rfl _ _ gb181 47 #[.string (rdOf ByteArray.empty t185 1), .int .u32 ((t193) % 4294967296), .string (a1.extract (t183 : Int).toNat ((wrap64 (t183 + (wrap64 (t196)))) : Int).toNat), .int .u64 x16_28] (0, 0) _ rfl (bV BK181.out) Tryd.underlying47 rfl (by kernel_rfl)) rfl ?_
                    exact ⟨xR, bH HB.out⟩
                   ·rw [if_neg c51] at H; exact absurd H (by simp)
                  ·rw [if_neg c50] at H; exact absurd H (by simp)
                 ·rw [if_neg c49] at H; exact absurd H (by simp)
                ·rw [if_neg c48] at H; exact absurd H (by simp)
          ·rw [if_neg c27] at H; exact absurd H (by simp)
         ·rw [if_neg c25] at H; exact absurd H (by simp)

end Go.Proofs.YtdgpagocccabdaaDoor.P
