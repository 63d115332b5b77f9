/- Lean functions for the Go functions that the laws of this seat use, and the proofs that the Go code computes them; conditions: the readings that each theorem names. Written by a program. -/
import Derived.Test.YtdgpagocccabdaaDoorPx0
import Derived.Test.YtdgpagocccabdaaDoorPx3
import Derived.Test.YtdgpagocccabdaaDoorPx15
import Derived.Test.YtdgpagocccabdaaDoorPx18
import Derived.Test.YtdgpagocccabdaaDoorPx21
import Derived.Test.YtdgpagocccabdaaDoorPx22
import Derived.Test.YtdgpagocccabdaaDoorShort
namespace Go.Proofs.YtdgpagocccabdaaDoor.P
open Go.RowKit Go.Proofs.YtdgpagocccabdaaDoorW.PrintWords Go.Proofs.YtdgpagocccabdaaDoorW.PrintLast Go.Proofs.YtdgpagocccabdaaDoorW.PrintMore
set_option linter.unusedVariables false
set_option linter.unusedSimpArgs false

/-! ### reply_hit: function 32 -/
mutual
def reply_hit.j0 : Nat → Int → ByteArray → ByteArray → Bool → Option (ByteArray × Int × ByteArray × Int × ByteArray × Bool)
 | 0, _, _, _, _ => none
 | k + 1, x0, x1, x7, x30 => if x30 = true then (some ((⟨#[]⟩ : ByteArray), 0, (⟨#[]⟩ : ByteArray), 0, (⟨#[]⟩ : ByteArray), false)) else ((strings_Split.f x7 (⟨#[32]⟩ : ByteArray)).bind fun t147 => ((verb_Shows.f x0).bind fun t150 => (if t150 = true then (reply_hit.j1 k x1 t147) else (if t147.length < 8796093022208 then (reply_hit.j1 k x1 (t147 ++ [(⟨#[48]⟩ : ByteArray)])) else (none)))))
def reply_hit.j1 : Nat → ByteArray → List ByteArray → Option (ByteArray × Int × ByteArray × Int × ByteArray × Bool)
 | 0, _, _ => none
 | k + 1, x1, x9 => if (x9.length : Int) = 5 then (if 0 < (x9.length : Int) then (if (rdOf ByteArray.empty x9 0).toList = ([86, 65, 76, 85, 69] : List UInt8) then (if 1 < (x9.length : Int) then ((fnv_Key.f k (rdOf ByteArray.empty x9 1)).bind fun t156 => (reply_hit.j2 k x1 x9 (!t156))) else (none)) else (reply_hit.j2 k x1 x9 true)) else (none)) else (reply_hit.j2 k x1 x9 true)
def reply_hit.j2 : Nat → ByteArray → List ByteArray → Bool → Option (ByteArray × Int × ByteArray × Int × ByteArray × Bool)
 | 0, _, _, _ => none
 | k + 1, x1, x9, x55 => if x55 = true then (some ((⟨#[]⟩ : ByteArray), 0, (⟨#[]⟩ : ByteArray), 0, (⟨#[]⟩ : ByteArray), false)) else (if 2 < (x9.length : Int) then ((reply_number.f (rdOf ByteArray.empty x9 2) 4294967295).bind fun bt158 => (if 3 < (x9.length : Int) then ((reply_number.f (rdOf ByteArray.empty x9 3) 2000).bind fun bt161 => (if 4 < (x9.length : Int) then ((reply_number.f (rdOf ByteArray.empty x9 4) 18446744073709551615).bind fun bt164 => (if bt158.2 = true then (if bt161.2 = true then (if bt164.2 = true then (reply_hit.j3 k x1 x9 bt158.1 bt161.1 bt164.1 (decide ((IntKind.u64.wrap ((x1.size : Int))) < bt161.1))) else (reply_hit.j3 k x1 x9 bt158.1 bt161.1 bt164.1 true)) else (reply_hit.j3 k x1 x9 bt158.1 bt161.1 bt164.1 true)) else (reply_hit.j3 k x1 x9 bt158.1 bt161.1 bt164.1 true))) else (none))) else (none))) else (none))
def reply_hit.j3 : Nat → ByteArray → List ByteArray → Int → Int → Int → Bool → Option (ByteArray × Int × ByteArray × Int × ByteArray × Bool)
 | 0, _, _, _, _, _, _ => none
 | k + 1, x1, x9, x10, x12, x14, x94 => if x94 = true then (some ((⟨#[]⟩ : ByteArray), 0, (⟨#[]⟩ : ByteArray), 0, (⟨#[]⟩ : ByteArray), false)) else (if 1 < (x9.length : Int) then (if 0 ≤ x12 then (if x12 ≤ (x1.size : Int) then ((strings_CutPrefix.f (x1.extract (x12 : Int).toNat x1.size) (⟨#[13, 10]⟩ : ByteArray)).bind fun bt168 => (some (rdOf ByteArray.empty x9 1, (x10) % 4294967296, x1.extract 0 (x12 : Int).toNat, x14, bt168.1, bt168.2))) else (none)) else (none)) else (none))
end
def reply_hit.f (k : Nat) (a0 : Int) (a1 : ByteArray) : Option (ByteArray × Int × ByteArray × Int × ByteArray × Bool) := (strings_Cut.f a1 (⟨#[13, 10]⟩ : ByteArray)).bind fun bt144 => (if bt144.2.2 = true then (reply_hit.j0 k a0 bt144.2.1 bt144.1 (decide ((bt144.1.size : Int) > 200))) else (reply_hit.j0 k a0 bt144.2.1 bt144.1 true))
theorem reply_hit.mono_l : ∀ k, (∀ y0 y1 y2 y3, LeO (reply_hit.j0 k y0 y1 y2 y3) (reply_hit.j0 (k + 1) y0 y1 y2 y3)) ∧ (∀ y0 y1, LeO (reply_hit.j1 k y0 y1) (reply_hit.j1 (k + 1) y0 y1)) ∧ (∀ y0 y1 y2, LeO (reply_hit.j2 k y0 y1 y2) (reply_hit.j2 (k + 1) y0 y1 y2)) ∧ (∀ y0 y1 y2 y3 y4 y5, LeO (reply_hit.j3 k y0 y1 y2 y3 y4 y5) (reply_hit.j3 (k + 1) y0 y1 y2 y3 y4 y5))
 | 0 => ⟨fun _ _ _ _ r h => by simp [reply_hit.j0] at h, fun _ _ r h => by simp [reply_hit.j1] at h, fun _ _ _ r h => by simp [reply_hit.j2] at h, fun _ _ _ _ _ _ r h => by simp [reply_hit.j3] at h⟩
 | k + 1 => by
  obtain ⟨ih0, ih1, ih2, ih3⟩ := reply_hit.mono_l k; refine ⟨?_, ?_, ?_, ?_⟩
  all_goals intros
  all_goals (first | unfold reply_hit.j0 | unfold reply_hit.j1 | unfold reply_hit.j2 | unfold reply_hit.j3)
  all_goals repeat' first | (with_reducible first | apply ih0 | apply ih1 | apply ih2 | apply ih3 | apply fnv_Key.mono | exact LeO.refl _ | exact LeO.none _ | refine LeO.ite ?_ ?_ | refine LeO.bind ?_ (fun _ => ?_)) | apply ih0 | apply ih1 | apply ih2 | apply ih3 | apply fnv_Key.mono | exact LeO.none _ | refine LeO.ite ?_ ?_ | refine LeO.bind ?_ (fun _ => ?_)
theorem reply_hit.mono : ∀ a0 a1 k, LeO (reply_hit.f k a0 a1) (reply_hit.f (k + 1) a0 a1) := by
 intro a0 a1 k
 obtain ⟨ih0, ih1, ih2, ih3⟩ := reply_hit.mono_l k; unfold reply_hit.f
 repeat' first | (with_reducible first | apply ih0 | apply ih1 | apply ih2 | apply ih3 | apply fnv_Key.mono | exact LeO.refl _ | exact LeO.none _ | refine LeO.ite ?_ ?_ | refine LeO.bind ?_ (fun _ => ?_)) | apply ih0 | apply ih1 | apply ih2 | apply ih3 | apply fnv_Key.mono | exact LeO.none _ | refine LeO.ite ?_ ?_ | refine LeO.bind ?_ (fun _ => ?_)
def reply_hit.T14 : Bool × List (List Nat × List Nat) := (true, [([], []), ([0], [0]), ([1], [1]), ([], []), ([3], [3]), ([], []), ([], []), ([5, 6], [5, 6]), ([], []), ([2, 4, 7, 8], [2, 4, 7, 8]), ([], []), ([10, 9, 0, 1, 2, 3, 4, 5, 6, 7, 8, 9, 10], [9, 10])])
def reply_hit.B14 : List Nat := [0, 1, 3, 0, 8, 0, 0, 96, 0, 511, 0, 2047]
theorem reply_hit.tab14 : rtab .any (opsOf Tryd.f32 14) = reply_hit.T14 := by kernel_rfl
theorem reply_hit.bits14 : waitsOk reply_hit.T14.2 reply_hit.B14 = true := by kernel_rfl
set_option maxHeartbeats 8000000 in
set_option maxRecDepth 100000 in
theorem reply_hit.calls (k : Nat) (a0 : Int) (a1 : ByteArray) (r1 : ByteArray) (r2 : Int) (r3 : ByteArray) (r4 : Int) (r5 : ByteArray) (r6 : Bool) (w : World) (h : reply_hit.f k a0 a1 = some (r1, r2, r3, r4, r5, r6)) (hL : LdU w) :
  Calls Tryd.prog 32 #[.int .i64 a0, .string a1] w fun e w' => e = .returned (.tuple #[.agg #[.string r1, .int .u32 r2, .string r3, .int .u64 r4], .string r5, .bool r6]) ∧ Below w.heap.size w w' := by
 have HL := Aside0.mk hL; clear hL; have hu60 := Tryd.underlying60; have HB := Aside0.mk (Below.refl w.heap.size w); have H : ((strings_Cut.f a1 (⟨#[13, 10]⟩ : ByteArray)).bind fun bt144 => (if bt144.2.2 = true then (reply_hit.j0 k a0 bt144.2.1 bt144.1 (decide ((bt144.1.size : Int) > 200))) else (reply_hit.j0 k a0 bt144.2.1 bt144.1 true))) = some (r1, r2, r3, r4, r5, r6) := h; clear h; replace H := Option.bind_eq_some_iff.mp H; obtain ⟨⟨t144, t145, t146⟩, A30, H⟩ := H; (try dsimp only at H); have A3 := Aside0.mk A30; clear A30; have HC4 := Aside0.mk H; clear H; go_enter Tryd.func32, Tryd.ntmps32
 go_upto_region 2 with (first | ((with_reducible refine gate_dst (N := 4) rfl ?_); (try (refine gate_guard (by rfl) ?_; dsimp only)); refine bE 4 #[.string (⟨#[]⟩ : ByteArray), .int .u32 0, .string (⟨#[]⟩ : ByteArray), .int .u64 0] 60 rfl rfl ?_; intro gb143 hg w5 hbox hb; have BK143 := rM hbox; have GW143 := rG HB hg; replace HB := rS HB hb; have GE143 := GW143; clear hb hbox hg) | ((with_reducible refine gate_callee (f := 29) rfl ?_); refine goesL_ (some 20) rfl rfl Tryd.func29 (by kernel_rfl) rfl #[.string a1, .string (⟨#[13, 10]⟩ : ByteArray)] rfl (by (try simp only [List.map_toArray, List.map_cons, List.map_nil]); first | done | rfl | (simp only [List.length_drop, List.length_take]; rfl)) ?_; (with_reducible refine (strings_Cut.calls a1 (⟨#[13, 10]⟩ : ByteArray) t144 t145 t146 _ A3.out (by first | exact HL.out | exact LdU.on HL.out (bH HB.out))).mono ?_); rintro e w6 ⟨rfl, hb⟩; refine ⟨_, rfl, ?_⟩; replace BK143 := rB BK143 hb; replace HB := rS HB hb; (try clear hb); (try clear hk); ))
 (try simp only [Act.put, sA, sB, sC])
 go_cut [30] (fun v30 wc => ∃ (kq : Nat) (x30_3 : Bool), v30 = .bool x30_3 ∧ Aside0 (reply_hit.j0 kq a0 t145 t144 x30_3 = some (r1, r2, r3, r4, r5, r6)) ∧ Aside0 (kq ≤ k) ∧ Aside0 (wc.heap[gb143]? = some (.cells #[.string (⟨#[]⟩ : ByteArray), .int .u32 0, .string (⟨#[]⟩ : ByteArray), .int .u64 0] 60 (0, 0))) ∧ Aside0 (Below w.heap.size w wc))
 case first =>
  have H := HC4.out; clear HC4
  by_cases c7 : t146 = true
  ·subst c7; rw [if_pos rfl] at H; have H' := Aside0.mk H; clear H; go_wp2
   go_meet
   case rel => exact ⟨_, (decide ((t144.size : Int) > 200)), (by first | rfl | (simp; done) | (simp [*]; done)), H', ⟨by first | omega | exact Nat.le_refl _⟩, ⟨bK BK143.out⟩, ⟨bH HB.out⟩⟩
  ·replace c7 := Bool.eq_false_iff.mpr c7; subst c7; rw [if_neg (show ¬ (false = true) by decide)] at H; have H' := Aside0.mk H; clear H; go_wp2
   go_meet
   case rel => exact ⟨_, (true), (by first | rfl | (simp; done) | (simp [*]; done)), H', ⟨by first | omega | exact Nat.le_refl _⟩, ⟨bK BK143.out⟩, ⟨bH HB.out⟩⟩
 case rest =>
  clear HC4; (try clear c7); obtain ⟨kq, x30_3, rfl, HA, HJ3, BK143, HB⟩ := hcut; cases kq with
  | zero => exact absurd HA.out (by simp [reply_hit.j0])
  | succ kj3 =>
   have H := HA.out; clear HA; simp only [reply_hit.j0] at H
   by_cases c8 : x30_3 = true
   ·subst c8; rw [if_pos rfl] at H; simp only [Option.some.injEq, Prod.mk.injEq] at H; obtain ⟨rfl, rfl, rfl, rfl, rfl, rfl⟩ := H; obtain ⟨hcz9, hfz9⟩ := d4 BK143; go_wp2; refine bodyPost_ret (results_ctt rfl _ _ gb143 60 #[.string (⟨#[]⟩ : ByteArray), .int .u32 0, .string (⟨#[]⟩ : ByteArray), .int .u64 0] (0, 0) _ rfl (bV BK143.out) Tryd.underlying60 rfl (by kernel_rfl)) rfl ?_
    exact ⟨xR, bH HB.out⟩
   ·replace c8 := Bool.eq_false_iff.mpr c8; subst c8; rw [if_neg (show ¬ (false = true) by decide)] at H; replace H := Option.bind_eq_some_iff.mp H; obtain ⟨t147, A100, H⟩ := H; (try dsimp only at H); have A10 := Aside0.mk A100; clear A100; replace H := Option.bind_eq_some_iff.mp H; obtain ⟨t150, A110, H⟩ := H; (try dsimp only at H); have A11 := Aside0.mk A110; clear A110; have HC12 := Aside0.mk H; clear H
    go_upto_if 36 with (first | ((with_reducible refine gate_callee (f := 42) rfl ?_); refine goesL_ (some 33) rfl rfl Tryd.func42 (by kernel_rfl) rfl #[.string t144, .string (⟨#[32]⟩ : ByteArray)] rfl (by (try simp only [List.map_toArray, List.map_cons, List.map_nil]); first | done | rfl | (simp only [List.length_drop, List.length_take]; rfl)) ?_; (with_reducible refine (strings_Split.calls t144 (⟨#[32]⟩ : ByteArray) t147 _ A10.out (by first | exact HL.out | exact LdU.on HL.out (bH HB.out))).mono ?_); rintro e w13 ⟨v148, rfl, ho0, hb⟩; refine ⟨_, rfl, ?_⟩; have HO149 := Aside0.mk (Kd.R_lower ho0 (below_size (bH HB.out))); replace BK143 := rB BK143 hb; replace HB := rS HB hb; (try clear hb); (try clear hk); (try clear ho0)) | ((with_reducible refine gate_callee (f := 20) rfl ?_); refine goesL_ (some 35) rfl rfl Tryd.func20 (by kernel_rfl) rfl #[.int .i64 a0] rfl (by (try simp only [List.map_toArray, List.map_cons, List.map_nil]); first | done | rfl | (simp only [List.length_drop, List.length_take]; rfl)) ?_; (with_reducible refine (verb_Shows.calls a0 t150 _ A11.out).mono ?_); rintro e w' ⟨rfl, ⟨nd, rfl⟩⟩; refine ⟨_, rfl, ?_⟩))
    (try simp only [Act.put, sA, sB, sC])
    go_cut [9] (fun v9 wc => ∃ (kq : Nat) (x9_11 : List ByteArray), Aside0 (reply_hit.j1 kq t145 x9_11 = some (r1, r2, r3, r4, r5, r6)) ∧ Aside0 (kq ≤ kj3) ∧ Aside0 (Kd.R Kd.string 9 wc w.heap.size (fun _ => True) v9 x9_11) ∧ Aside0 (wc.heap[gb143]? = some (.cells #[.string (⟨#[]⟩ : ByteArray), .int .u32 0, .string (⟨#[]⟩ : ByteArray), .int .u64 0] 60 (0, 0))) ∧ Aside0 (Below w.heap.size w wc))
    case first =>
     have H := HC12.out; clear HC12
     by_cases c14 : t150 = true
     ·subst c14; rw [if_pos rfl] at H; have H' := Aside0.mk H; clear H; go_wp2
      go_meet
      case rel => exact ⟨_, (t147), H', ⟨by have := HJ3.out; first | omega | exact Nat.le_refl _⟩, ⟨by (with_reducible repeat (first | apply Kd.R_alloc | apply Kd.R_drewN | apply Kd.R_drew)); exact HO149.out⟩, ⟨bK BK143.out⟩, ⟨bH HB.out⟩⟩
     ·replace c14 := Bool.eq_false_iff.mpr c14; subst c14; rw [if_neg (show ¬ (false = true) by decide)] at H
      by_cases c15 : t147.length < 8796093022208
      ·rw [if_pos c15] at H; have LMc15 := Aside0.mk c15; clear c15; obtain ⟨y151, hy151⟩ : ∃ y_ : List ByteArray, y_ = (t147 ++ [(⟨#[48]⟩ : ByteArray)]) := ⟨_, rfl⟩; replace H : (reply_hit.j1 kj3 t145 y151) = some (r1, r2, r3, r4, r5, r6) := by first | (rw [hy151]; with_reducible exact H) | (have H2_ := (Option.bind_some _ _).symm.trans H; rw [hy151]; with_reducible exact H2_) | (have H2_ := (Option.bind_some _ _).symm.trans H; with_reducible exact H2_) | with_reducible exact H | (rw [hy151]; exact H) | exact H
       have Ny151 := Aside0.mk hy151; clear hy151; have H' := Aside0.mk H; clear H
       go_wp2_with (first | ((with_reducible refine gate_builtin (b := .append) (xs := #[.tmp 37, .tmp 38]) rfl ?_); (try (refine gate_guard (by rfl) ?_; dsimp only)); at_builtin; refine Kd.R_append Kd.string (w0 := w) w.heap.size rfl (.tmp 37) (.tmp 38) 61 9 (.string ⟨#[]⟩) 16 rfl Tryd.underlying61 info9 rfl (by decide) (by omega) v148 t147 (⟨#[48]⟩ : ByteArray) [.string (⟨#[48]⟩ : ByteArray)] (fun _ => True) (fun _ => False) rfl rfl ?aP (fun _ hk => hk.elim) ?aF ?aO ?aB ?aS ?aL ?_; (case aP => exact rfl); (case aB => exact (bH HB.out)); (case aF => exact (fun _ _ => trivial)); (case aO => exact (by (with_reducible repeat (first | apply Kd.R_alloc | apply Kd.R_drewN | apply Kd.R_drew)); exact HO149.out)); (case aS => exact (below_size (bH HB.out))); (case aL => have := LMc15.out; omega); intro v152 w16 ho hb hg hat; rw [← Ny151.out] at ho; replace BK143 := Aside0.mk (blk_grown (g := gb143) (o := .cells #[.string (⟨#[]⟩ : ByteArray), .int .u32 0, .string (⟨#[]⟩ : ByteArray), .int .u64 0] 60 (0, 0)) (bK BK143.out) hg (Kd.R_ne HO149.out BK143.out (by decide))); replace HB := Aside0.mk (hb); have HO153 := Aside0.mk (ho); clear HO149; clear ho hb hg hat))
       go_meet
       case rel => exact ⟨_, (y151), H', ⟨by have := HJ3.out; first | omega | exact Nat.le_refl _⟩, ⟨by (with_reducible repeat (first | apply Kd.R_alloc | apply Kd.R_drewN | apply Kd.R_drew)); exact HO153.out⟩, ⟨bK BK143.out⟩, ⟨bH HB.out⟩⟩
      ·rw [if_neg c15] at H; exact absurd H (by simp)
    case rest =>
     clear HC12; (try clear c7); (try clear c8); (try clear c14); (try clear c15); (try clear hcz9); (try clear hfz9); obtain ⟨kq, x9_11, HA, HJ11, HO_9, BK143, HB⟩ := hcut; cases kq with
     | zero => exact absurd HA.out (by simp [reply_hit.j1])
     | succ kj11 =>
      have H := HA.out; clear HA; simp only [reply_hit.j1] at H; have HC17 := Aside0.mk H; clear H
      go_upto_region 7 with (fail)
      go_cut [55] (fun v55 wc => ∃ (kq : Nat) (x55_16 : Bool), v55 = .bool x55_16 ∧ Aside0 (reply_hit.j2 kq t145 x9_11 x55_16 = some (r1, r2, r3, r4, r5, r6)) ∧ Aside0 (kq ≤ kj11) ∧ Aside0 (Kd.R Kd.string 9 wc w.heap.size (fun _ => True) u9 x9_11) ∧ Aside0 (wc.heap[gb143]? = some (.cells #[.string (⟨#[]⟩ : ByteArray), .int .u32 0, .string (⟨#[]⟩ : ByteArray), .int .u64 0] 60 (0, 0))) ∧ Aside0 (Below w.heap.size w wc))
      case first =>
       have H := HC17.out; clear HC17
       by_cases c18 : (x9_11.length : Int) = 5
       ·rw [if_pos c18] at H; have c18b0 : ((x9_11.length : Int) == 5) = true := beq_iff_eq.mpr c18; have c18b1 : ((x9_11.length : Int) != 5) = false := bne_eq_false_iff_eq.mpr c18; clear c18
        (first | rw [c18b0] | (simp only [i64_w, i32_w]; rw [c18b0]) | skip)
        by_cases c19 : 0 < (x9_11.length : Int)
        ·rw [if_pos c19] at H; have c19b0 : decide (0 < (x9_11.length : Int)) = true := decide_eq_true c19; have c19b1 : decide (0 < x9_11.length) = true := decide_eq_true (by omega); clear c19
         by_cases c20 : (rdOf ByteArray.empty x9_11 0).toList = ([86, 65, 76, 85, 69] : List UInt8)
         ·rw [if_pos c20] at H; have c20b0 : ((rdOf ByteArray.empty x9_11 0).toList == ([86, 65, 76, 85, 69] : List UInt8)) = true := beq_iff_eq.mpr c20; have c20b1 : ((rdOf ByteArray.empty x9_11 0).toList != ([86, 65, 76, 85, 69] : List UInt8)) = false := bne_eq_false_iff_eq.mpr c20; clear c20
          by_cases c21 : 1 < (x9_11.length : Int)
          ·rw [if_pos c21] at H; have c21b0 : decide (1 < (x9_11.length : Int)) = true := decide_eq_true c21; have c21b1 : decide (1 < x9_11.length) = true := decide_eq_true (by omega); clear c21; replace H := Option.bind_eq_some_iff.mp H; obtain ⟨t156, A220, H⟩ := H; (try dsimp only at H); have A22 := Aside0.mk A220; clear A220; have H' := Aside0.mk H; clear H; obtain ⟨Ao23, co23, eo23⟩ := Kd.R_slice HO_9.out; subst eo23; have p154 : 0 ≤ (0 : Int) := (by omega); have q154 : 0 < (x9_11.length : Int) := of_decide_eq_true (by first | (with_reducible assumption) | assumption)
           obtain ⟨ad154, e154, hx154_0⟩ := Kd.at_string (Kd.R_reads' HO_9.out).2.2 0 p154 q154; cases e154; have qi154 : (0 < x9_11.length) = True := eq_true (by omega)
           (try rw [show ((0 : Int)).toNat = 0 from rfl] at hx154_0)
           (try rw [Addr.add_zero'] at hx154_0)
           replace p154 := eq_true p154; replace q154 := eq_true q154; have p155 : 0 ≤ (1 : Int) := (by omega); have q155 : 1 < (x9_11.length : Int) := of_decide_eq_true (by first | (with_reducible assumption) | assumption)
           obtain ⟨ad155, e155, hx155_0⟩ := Kd.at_string (Kd.R_reads' HO_9.out).2.2 1 p155 q155; obtain rfl : ad154 = ad155 := (by injection e155)
           (try simp only [show (1 : Int).toNat = 1 from rfl, Nat.reduceMul, Nat.reduceEqDiff, Go.Addr.add, ↓reduceIte] at hx155_0)
           have qi155 : (1 < x9_11.length) = True := eq_true (by omega)
           (try rw [show ((1 : Int)).toNat = 1 from rfl] at hx155_0)
           replace p155 := eq_true p155; replace q155 := eq_true q155
           go_wp2_with (first | (go_at_call 43; (with_reducible refine (fnv_Key.calls kj11 (rdOf ByteArray.empty x9_11 1) t156 _ A22.out).mono ?_); rintro e w' ⟨rfl, ⟨nd, rfl⟩⟩))
           go_meet
           case rel => exact ⟨_, (!t156), (by first | rfl | (simp; done) | (simp [*]; done)), H', ⟨by have := HJ3.out; have := HJ11.out; first | omega | exact Nat.le_refl _⟩, ⟨by (with_reducible repeat (first | apply Kd.R_alloc | apply Kd.R_drewN | apply Kd.R_drew)); exact HO_9.out⟩, ⟨bK BK143.out⟩, ⟨bH HB.out⟩⟩
          ·rw [if_neg c21] at H; exact absurd H (by simp)
         ·rw [if_neg c20] at H; have c20b0 : ((rdOf ByteArray.empty x9_11 0).toList == ([86, 65, 76, 85, 69] : List UInt8)) = false := beq_eq_false_iff_ne.mpr c20; have c20b1 : ((rdOf ByteArray.empty x9_11 0).toList != ([86, 65, 76, 85, 69] : List UInt8)) = true := bne_iff_ne.mpr c20; have H' := Aside0.mk H; clear H; obtain ⟨Ao24, co24, eo24⟩ := Kd.R_slice HO_9.out; subst eo24; have p154 : 0 ≤ (0 : Int) := (by omega); have q154 : 0 < (x9_11.length : Int) := of_decide_eq_true (by first | (with_reducible assumption) | assumption)
          obtain ⟨ad154, e154, hx154_0⟩ := Kd.at_string (Kd.R_reads' HO_9.out).2.2 0 p154 q154; cases e154; have qi154 : (0 < x9_11.length) = True := eq_true (by omega)
          (try rw [show ((0 : Int)).toNat = 0 from rfl] at hx154_0)
          (try rw [Addr.add_zero'] at hx154_0)
          replace p154 := eq_true p154; replace q154 := eq_true q154; go_wp2
          go_meet
          case rel => exact ⟨_, (true), (by first | rfl | (simp; done) | (simp [*]; done)), H', ⟨by have := HJ3.out; have := HJ11.out; first | omega | exact Nat.le_refl _⟩, ⟨by (with_reducible repeat (first | apply Kd.R_alloc | apply Kd.R_drewN | apply Kd.R_drew)); exact HO_9.out⟩, ⟨bK BK143.out⟩, ⟨bH HB.out⟩⟩
        ·rw [if_neg c19] at H; exact absurd H (by simp)
       ·rw [if_neg c18] at H; have c18b0 : ((x9_11.length : Int) == 5) = false := beq_eq_false_iff_ne.mpr c18; have c18b1 : ((x9_11.length : Int) != 5) = true := bne_iff_ne.mpr c18
        (first | rw [c18b0] | (simp only [i64_w, i32_w]; rw [c18b0]) | skip)
        have H' := Aside0.mk H; clear H; obtain ⟨Ao25, co25, eo25⟩ := Kd.R_slice HO_9.out; subst eo25; go_wp2
        go_meet
        case rel => exact ⟨_, (true), (by first | rfl | (simp; done) | (simp [*]; done)), H', ⟨by have := HJ3.out; have := HJ11.out; first | omega | exact Nat.le_refl _⟩, ⟨by (with_reducible repeat (first | apply Kd.R_alloc | apply Kd.R_drewN | apply Kd.R_drew)); exact HO_9.out⟩, ⟨bK BK143.out⟩, ⟨bH HB.out⟩⟩
      case rest =>
       clear HC17; (try clear c7); (try clear c8); (try clear c14); (try clear c15); (try clear c18); (try clear c18b0); (try clear c18b1); (try clear c19); (try clear c19b0); (try clear c19b1); (try clear c20); (try clear c20b0); (try clear c20b1); (try clear c21); (try clear c21b0); (try clear c21b1); (try clear hcz9); (try clear hfz9); (try clear hx154_0); (try clear hx155_0); (try clear p154); (try clear p155); (try clear q154); (try clear q155); obtain ⟨kq, x55_16, rfl, HA, HJ16, HO_9, BK143, HB⟩ := hcut; cases kq with
       | zero => exact absurd HA.out (by simp [reply_hit.j2])
       | succ kj16 =>
        have H := HA.out; clear HA; simp only [reply_hit.j2] at H
        by_cases c26 : x55_16 = true
        ·subst c26; rw [if_pos rfl] at H; simp only [Option.some.injEq, Prod.mk.injEq] at H; obtain ⟨rfl, rfl, rfl, rfl, rfl, rfl⟩ := H; obtain ⟨hcz27, hfz27⟩ := d4 BK143; go_wp2; refine bodyPost_ret (results_ctt rfl _ _ gb143 60 #[.string (⟨#[]⟩ : ByteArray), .int .u32 0, .string (⟨#[]⟩ : ByteArray), .int .u64 0] (0, 0) _ rfl (bV BK143.out) Tryd.underlying60 rfl (by kernel_rfl)) rfl ?_
         exact ⟨xR, bH HB.out⟩
        ·replace c26 := Bool.eq_false_iff.mpr c26; subst c26; rw [if_neg (show ¬ (false = true) by decide)] at H
         by_cases c28 : 2 < (x9_11.length : Int)
         ·rw [if_pos c28] at H; have c28b0 : decide (2 < (x9_11.length : Int)) = true := decide_eq_true c28; have c28b1 : decide (2 < x9_11.length) = true := decide_eq_true (by omega); clear c28; replace H := Option.bind_eq_some_iff.mp H; obtain ⟨⟨t158, t159⟩, A290, H⟩ := H; (try dsimp only at H); have A29 := Aside0.mk A290; clear A290
          by_cases c30 : 3 < (x9_11.length : Int)
          ·rw [if_pos c30] at H; have c30b0 : decide (3 < (x9_11.length : Int)) = true := decide_eq_true c30; have c30b1 : decide (3 < x9_11.length) = true := decide_eq_true (by omega); clear c30; replace H := Option.bind_eq_some_iff.mp H; obtain ⟨⟨t161, t162⟩, A310, H⟩ := H; (try dsimp only at H); have A31 := Aside0.mk A310; clear A310
           by_cases c32 : 4 < (x9_11.length : Int)
           ·rw [if_pos c32] at H; have c32b0 : decide (4 < (x9_11.length : Int)) = true := decide_eq_true c32; have c32b1 : decide (4 < x9_11.length) = true := decide_eq_true (by omega); clear c32; replace H := Option.bind_eq_some_iff.mp H; obtain ⟨⟨t164, t165⟩, A330, H⟩ := H; (try dsimp only at H); have A33 := Aside0.mk A330; clear A330; have HC34 := Aside0.mk H; clear H; obtain ⟨Ao35, co35, eo35⟩ := Kd.R_slice HO_9.out; subst eo35; have p157 : 0 ≤ (2 : Int) := (by omega); have q157 : 2 < (x9_11.length : Int) := of_decide_eq_true (by first | (with_reducible assumption) | assumption)
            obtain ⟨ad157, e157, hx157_0⟩ := Kd.at_string (Kd.R_reads' HO_9.out).2.2 2 p157 q157; cases e157
            (try simp only [show (2 : Int).toNat = 2 from rfl, Nat.reduceMul, Nat.reduceEqDiff, Go.Addr.add, ↓reduceIte] at hx157_0)
            have qi157 : (2 < x9_11.length) = True := eq_true (by omega)
            (try rw [show ((2 : Int)).toNat = 2 from rfl] at hx157_0)
            replace p157 := eq_true p157; replace q157 := eq_true q157
            go_upto_region 12 with (first | ((with_reducible refine gate_callee (f := 30) rfl ?_); refine goesL_ (some 61) rfl rfl Tryd.func30 (by kernel_rfl) rfl #[.string (rdOf ByteArray.empty x9_11 2), .int .u64 4294967295] rfl (by (try simp only [List.map_toArray, List.map_cons, List.map_nil]); first | done | rfl | (simp only [List.length_drop, List.length_take]; rfl)) ?_; (with_reducible refine (reply_number.calls (rdOf ByteArray.empty x9_11 2) 4294967295 t158 t159 _ A29.out (by first | exact (LdU.s HL.out) | exact LdS.on (LdU.s HL.out) (bH HB.out))).mono ?_); rintro e w36 ⟨rfl, hb⟩; refine ⟨_, rfl, ?_⟩; replace HO_9 := Aside0.mk (Kd.R_below (by (with_reducible repeat (first | apply Kd.R_alloc | apply Kd.R_drewN | apply Kd.R_drew)); exact HO_9.out) hb); replace BK143 := rB BK143 hb; replace HB := rS HB hb; (try clear hb); (try clear hk); have p160 : 0 ≤ (3 : Int) := (by omega); have q160 : 3 < (x9_11.length : Int) := of_decide_eq_true (by first | (with_reducible assumption) | assumption); obtain ⟨ad160, e160, hx160_0⟩ := Kd.at_string (Kd.R_reads' HO_9.out).2.2 3 p160 q160; obtain rfl : ad157 = ad160 := (by injection e160); (try simp only [show (3 : Int).toNat = 3 from rfl, Nat.reduceMul, Nat.reduceEqDiff, Go.Addr.add, ↓reduceIte] at hx160_0); have qi160 : (3 < x9_11.length) = True := eq_true (by omega); (try rw [show ((3 : Int)).toNat = 3 from rfl] at hx160_0); replace p160 := eq_true p160; replace q160 := eq_true q160) | ((with_reducible refine gate_callee (f := 30) rfl ?_); refine goesL_ (some 68) rfl rfl Tryd.func30 (by kernel_rfl) rfl #[.string (rdOf ByteArray.empty x9_11 3), .int .u64 2000] rfl (by (try simp only [List.map_toArray, List.map_cons, List.map_nil]); first | done | rfl | (simp only [List.length_drop, List.length_take]; rfl)) ?_; (with_reducible refine (reply_number.calls (rdOf ByteArray.empty x9_11 3) 2000 t161 t162 _ A31.out (by first | exact (LdU.s HL.out) | exact LdS.on (LdU.s HL.out) (bH HB.out))).mono ?_); rintro e w37 ⟨rfl, hb⟩; refine ⟨_, rfl, ?_⟩; replace HO_9 := Aside0.mk (Kd.R_below (by (with_reducible repeat (first | apply Kd.R_alloc | apply Kd.R_drewN | apply Kd.R_drew)); exact HO_9.out) hb); replace BK143 := rB BK143 hb; replace HB := rS HB hb; (try clear hb); (try clear hk); have p163 : 0 ≤ (4 : Int) := (by omega); have q163 : 4 < (x9_11.length : Int) := of_decide_eq_true (by first | (with_reducible assumption) | assumption); obtain ⟨ad163, e163, hx163_0⟩ := Kd.at_string (Kd.R_reads' HO_9.out).2.2 4 p163 q163; obtain rfl : ad157 = ad163 := (by injection e163); (try simp only [show (4 : Int).toNat = 4 from rfl, Nat.reduceMul, Nat.reduceEqDiff, Go.Addr.add, ↓reduceIte] at hx163_0); have qi163 : (4 < x9_11.length) = True := eq_true (by omega); (try rw [show ((4 : Int)).toNat = 4 from rfl] at hx163_0); replace p163 := eq_true p163; replace q163 := eq_true q163) | ((with_reducible refine gate_callee (f := 30) rfl ?_); refine goesL_ (some 75) rfl rfl Tryd.func30 (by kernel_rfl) rfl #[.string (rdOf ByteArray.empty x9_11 4), .int .u64 18446744073709551615] rfl (by (try simp only [List.map_toArray, List.map_cons, List.map_nil]); first | done | rfl | (simp only [List.length_drop, List.length_take]; rfl)) ?_; (with_reducible refine (reply_number.calls (rdOf ByteArray.empty x9_11 4) 18446744073709551615 t164 t165 _ A33.out (by first | exact (LdU.s HL.out) | exact LdS.on (LdU.s HL.out) (bH HB.out))).mono ?_); rintro e w38 ⟨rfl, hb⟩; refine ⟨_, rfl, ?_⟩; replace HO_9 := Aside0.mk (Kd.R_below (by (with_reducible repeat (first | apply Kd.R_alloc | apply Kd.R_drewN | apply Kd.R_drew)); exact HO_9.out) hb); replace BK143 := rB BK143 hb; replace HB := rS HB hb; (try clear hb); (try clear hk); ))
            (try simp only [Act.put, sA, sB, sC])
            go_cut [94] (fun v94 wc => ∃ (kq : Nat) (x94_33 : Bool), v94 = .bool x94_33 ∧ Aside0 (reply_hit.j3 kq t145 x9_11 t158 t161 t164 x94_33 = some (r1, r2, r3, r4, r5, r6)) ∧ Aside0 (kq ≤ kj16) ∧ Aside0 (Kd.R Kd.string 9 wc w.heap.size (fun _ => True) (.slice (some ad157) x9_11.length co35) x9_11) ∧ Aside0 (wc.heap[gb143]? = some (.cells #[.string (⟨#[]⟩ : ByteArray), .int .u32 0, .string (⟨#[]⟩ : ByteArray), .int .u64 0] 60 (0, 0))) ∧ Aside0 (Below w.heap.size w wc))
            case first =>
             have H := HC34.out; clear HC34
             by_cases c39 : t159 = true
             ·subst c39; rw [if_pos rfl] at H
              by_cases c40 : t162 = true
              ·subst c40; rw [if_pos rfl] at H
               by_cases c41 : t165 = true
               ·subst c41; rw [if_pos rfl] at H; have H' := Aside0.mk H; clear H; go_wp2
                go_meet
                case rel => exact ⟨_, (decide ((IntKind.u64.wrap ((t145.size : Int))) < t161)), (by first | rfl | (simp; done) | (simp [*]; done)), H', ⟨by have := HJ3.out; have := HJ11.out; have := HJ16.out; first | omega | exact Nat.le_refl _⟩, ⟨by (with_reducible repeat (first | apply Kd.R_alloc | apply Kd.R_drewN | apply Kd.R_drew)); exact HO_9.out⟩, ⟨bK BK143.out⟩, ⟨bH HB.out⟩⟩
               ·replace c41 := Bool.eq_false_iff.mpr c41; subst c41; rw [if_neg (show ¬ (false = true) by decide)] at H; have H' := Aside0.mk H; clear H; go_wp2
                go_meet
                case rel => exact ⟨_, (true), (by first | rfl | (simp; done) | (simp [*]; done)), H', ⟨by have := HJ3.out; have := HJ11.out; have := HJ16.out; first | omega | exact Nat.le_refl _⟩, ⟨by (with_reducible repeat (first | apply Kd.R_alloc | apply Kd.R_drewN | apply Kd.R_drew)); exact HO_9.out⟩, ⟨bK BK143.out⟩, ⟨bH HB.out⟩⟩
              ·replace c40 := Bool.eq_false_iff.mpr c40; subst c40; rw [if_neg (show ¬ (false = true) by decide)] at H; have H' := Aside0.mk H; clear H; go_wp2
               go_meet
               case rel => exact ⟨_, (true), (by first | rfl | (simp; done) | (simp [*]; done)), H', ⟨by have := HJ3.out; have := HJ11.out; have := HJ16.out; first | omega | exact Nat.le_refl _⟩, ⟨by (with_reducible repeat (first | apply Kd.R_alloc | apply Kd.R_drewN | apply Kd.R_drew)); exact HO_9.out⟩, ⟨bK BK143.out⟩, ⟨bH HB.out⟩⟩
             ·replace c39 := Bool.eq_false_iff.mpr c39; subst c39; rw [if_neg (show ¬ (false = true) by decide)] at H; have H' := Aside0.mk H; clear H; go_wp2
              go_meet
              case rel => exact ⟨_, (true), (by first | rfl | (simp; done) | (simp [*]; done)), H', ⟨by have := HJ3.out; have := HJ11.out; have := HJ16.out; first | omega | exact Nat.le_refl _⟩, ⟨by (with_reducible repeat (first | apply Kd.R_alloc | apply Kd.R_drewN | apply Kd.R_drew)); exact HO_9.out⟩, ⟨bK BK143.out⟩, ⟨bH HB.out⟩⟩
            case rest =>
             clear HC34; (try clear c7); (try clear c8); (try clear c14); (try clear c15); (try clear c18); (try clear c18b0); (try clear c18b1); (try clear c19); (try clear c19b0); (try clear c19b1); (try clear c20); (try clear c20b0); (try clear c20b1); (try clear c21); (try clear c21b0); (try clear c21b1); (try clear c26); (try clear c28); (try clear c28b0); (try clear c28b1); (try clear c30); (try clear c30b0); (try clear c30b1); (try clear c32); (try clear c32b0); (try clear c32b1); (try clear c39); (try clear c40); (try clear c41); (try clear hcz27); (try clear hcz9); (try clear hfz27); (try clear hfz9); (try clear hx154_0); (try clear hx155_0); (try clear hx157_0); (try clear hx160_0); (try clear hx163_0); (try clear p154); (try clear p155); (try clear p157); (try clear p160); (try clear p163); (try clear q154); (try clear q155); (try clear q157); (try clear q160); (try clear q163); obtain ⟨kq, x94_33, rfl, HA, HJ33, HO_9, BK143, HB⟩ := hcut; cases kq with
             | zero => exact absurd HA.out (by simp [reply_hit.j3])
             | succ kj33 =>
              have H := HA.out; clear HA; simp only [reply_hit.j3] at H
              by_cases c42 : x94_33 = true
              ·subst c42; rw [if_pos rfl] at H; simp only [Option.some.injEq, Prod.mk.injEq] at H; obtain ⟨rfl, rfl, rfl, rfl, rfl, rfl⟩ := H; obtain ⟨hcz43, hfz43⟩ := d4 BK143; go_wp2; refine bodyPost_ret (results_ctt rfl _ _ gb143 60 #[.string (⟨#[]⟩ : ByteArray), .int .u32 0, .string (⟨#[]⟩ : ByteArray), .int .u64 0] (0, 0) _ rfl (bV BK143.out) Tryd.underlying60 rfl (by kernel_rfl)) rfl ?_
               exact ⟨xR, bH HB.out⟩
              ·replace c42 := Bool.eq_false_iff.mpr c42; subst c42; rw [if_neg (show ¬ (false = true) by decide)] at H
               by_cases c44 : 1 < (x9_11.length : Int)
               ·rw [if_pos c44] at H; have c44b0 : decide (1 < (x9_11.length : Int)) = true := decide_eq_true c44; have c44b1 : decide (1 < x9_11.length) = true := decide_eq_true (by omega); clear c44
                by_cases c45 : 0 ≤ t161
                ·rw [if_pos c45] at H; have c45b0 := eq_true c45; have c45b1 : decide (0 ≤ t161) = true := decide_eq_true c45; clear c45
                 by_cases c46 : t161 ≤ (t145.size : Int)
                 ·rw [if_pos c46] at H; have c46b0 := eq_true c46; have c46b1 : decide (t161 ≤ (t145.size : Int)) = true := decide_eq_true c46; clear c46; have c47b0 := eq_true (of_decide_eq_true (by first | (with_reducible assumption) | assumption) : 0 ≤ t161); have c48b0 := eq_true (of_decide_eq_true (by first | (with_reducible assumption) | assumption) : t161 ≤ (t145.size : Int)); replace H := Option.bind_eq_some_iff.mp H; obtain ⟨⟨t168, t169⟩, A490, H⟩ := H; (try dsimp only at H); have A49 := Aside0.mk A490; clear A490; simp only [Option.some.injEq, Prod.mk.injEq] at H; obtain ⟨rfl, rfl, rfl, rfl, rfl, rfl⟩ := H
                  try go_wp2
                  replace HO_9 := Aside0.mk (Kd.R_drew HO_9.out); replace BK143 := Aside0.mk (bD BK143.out); replace HB := Aside0.mk (eD HB.out); have p166 : 0 ≤ (1 : Int) := (by omega); have q166 : 1 < (x9_11.length : Int) := of_decide_eq_true (by first | (with_reducible assumption) | assumption)
                  obtain ⟨ad166, e166, hx166_0⟩ := Kd.at_string (Kd.R_reads' HO_9.out).2.2 1 p166 q166; obtain rfl : ad157 = ad166 := (by injection e166)
                  (try simp only [show (1 : Int).toNat = 1 from rfl, Nat.reduceMul, Nat.reduceEqDiff, Go.Addr.add, ↓reduceIte] at hx166_0)
                  have qi166 : (1 < x9_11.length) = True := eq_true (by omega)
                  (try rw [show ((1 : Int)).toNat = 1 from rfl] at hx166_0)
                  replace p166 := eq_true p166; replace q166 := eq_true q166; refine start_ (n := 12) (S := fun w' => w'.cell? ⟨ad157.block, ad157.off + 1, none⟩ = some (.string (rdOf ByteArray.empty x9_11 1))) (ds := []) #[false, false, false, false, false, false, false, false, false, false, false, false] (by kernel_rfl) rfl rfl (hx166_0) (fun hHeld => ?_); refine with_tabW reply_hit.tab14 reply_hit.bits14 (fun HT_ HW_ => ?_)
                  generalize wc.drew = w50 at HO_9 BK143 HB hx166_0 hHeld ⊢; refine pU HT_ 0 (some 96) ?_ #[true, false, false, false, false, false, false, false, false, false, false, false] rfl rfl ?_ ?_ ?_ ?_
                  rotate_left
                  ·intro w'
                   go_simp
                   with_reducible rfl
                  rotate_left
                  ·simp only [Act.put, sA, sB, sC, i64_w, i32_w]
                   rfl
                  refine pU HT_ 1 (some 97) ?_ #[true, true, false, false, false, false, false, false, false, false, false, false] rfl rfl ?_ ?_ ?_ ?_
                  rotate_left
                  ·intro w'
                   go_simp
                   with_reducible rfl
                  rotate_left
                  ·simp only [Act.put, sA, sB, sC, i64_w, i32_w]
                   rfl
                  refine pU HT_ 3 (some 99) ?_ #[true, true, false, true, false, false, false, false, false, false, false, false] rfl rfl ?_ ?_ ?_ ?_
                  rotate_left
                  ·intro w'
                   go_simp
                   with_reducible rfl
                  rotate_left
                  ·simp only [Act.put, sA, sB, sC, i64_w, i32_w]
                   rfl
                  refine pU HT_ 4 (some 100) ?_ #[true, true, false, true, true, false, false, false, false, false, false, false] rfl rfl ?_ ?_ ?_ ?_
                  rotate_left
                  ·intro w'
                   go_simp
                   with_reducible rfl
                  rotate_left
                  ·simp only [Act.put, sA, sB, sC, i64_w, i32_w]
                   rfl
                  refine pU HT_ 5 (some 101) ?_ #[true, true, false, true, true, true, false, false, false, false, false, false] rfl rfl ?_ ?_ ?_ ?_
                  rotate_left
                  ·intro w'
                   go_simp
                   with_reducible rfl
                  rotate_left
                  ·simp only [Act.put, sA, sB, sC, i64_w, i32_w]
                   rfl
                  refine pU HT_ 6 (some 102) ?_ #[true, true, false, true, true, true, true, false, false, false, false, false] rfl rfl ?_ ?_ ?_ ?_
                  rotate_left
                  ·intro w'
                   go_simp
                   with_reducible rfl
                  rotate_left
                  ·simp only [Act.put, sA, sB, sC, i64_w, i32_w]
                   rfl
                  refine pU HT_ 7 (some 103) ?_ #[true, true, false, true, true, true, true, true, false, false, false, false] rfl rfl ?_ ?_ ?_ ?_
                  rotate_left
                  ·intro w'
                   go_simp
                   with_reducible rfl
                  rotate_left
                  ·simp only [Act.put, sA, sB, sC, i64_w, i32_w]
                   rfl
                  refine pU HT_ 8 (some 104) ?_ #[true, true, false, true, true, true, true, true, true, false, false, false] rfl rfl ?_ ?_ ?_ ?_
                  rotate_left
                  ·intro w'
                   go_simp
                   with_reducible rfl
                  rotate_left
                  ·simp only [Act.put, sA, sB, sC, i64_w, i32_w]
                   rfl
                  refine tU HT_ HW_ hHeld 2 (some 98) ?_ #[true, true, true, true, true, true, true, true, true, false, false, false] rfl rfl ?_ ?_ ?_ ?_
                  rotate_left
                  ·intro w' s0
                   go_simp
                   with_reducible rfl
                  rotate_left
                  ·simp only [Act.put, sA, sB, sC, i64_w, i32_w]
                   rfl
                  refine pU HT_ 9 (some 105) ?_ #[true, true, true, true, true, true, true, true, true, true, false, false] rfl rfl ?_ ?_ ?_ ?_
                  rotate_left
                  ·intro w'
                   go_simp
                   with_reducible rfl
                  rotate_left
                  ·simp only [Act.put, sA, sB, sC, i64_w, i32_w]
                   rfl
                  refine one_ (i := 10) (N := some 16) #[true, true, true, true, true, true, true, true, true, true, true, false] rfl rfl (one_of HT_.out (by kernel_rfl)) (by decide) (fun K hK => ?_)
                  refine box_step ?hg (N := 16) ?hd (cs := #[.string (⟨#[]⟩ : ByteArray), .int .u32 0, .string (⟨#[]⟩ : ByteArray), .int .u64 0]) (t := 60) ?hr ?_; (case hd => rfl); (case hg => rfl); (case hr => first | (go_simp; done) | (go_simp; rfl))
                  intro gb167 hg w51 hbox hb
                  have HS0_ := (hb.cell (World.block_lt_of_cell? _ _ (hHeld))).trans (hHeld); replace HO_9 := Aside0.mk (Kd.R_below (by (with_reducible repeat (first | apply Kd.R_alloc | apply Kd.R_drewN | apply Kd.R_drew)); exact HO_9.out) hb); have BK167 := rM hbox; have GW167 := rG HB hg; replace HB := rS HB hb; have GE167 := GW167; have NB143_167 := rN BK143 hg; replace BK143 := rB BK143 hb; have NB167_143 := rY NB143_167; clear hb hbox hg; refine hK.out _ _ (HS0_) (fun hHeld => ?_)
                  clear hK K; refine norm_ (a' := ?_) ?_ ?_
                  rotate_left
                  ·show Act.put _ (some 16) _ = _
                   simp only [Act.put, sA, sB, sC, i64_w, i32_w]
                   rfl
                  refine one_ (i := 11) (N := none) #[true, true, true, true, true, true, true, true, true, true, true, true] rfl rfl (one_of HT_.out (by kernel_rfl)) (by decide) (fun K hK => ?_)
                  have hs52 : w51.cell? ⟨gb167, 0, none⟩ = some (.string (⟨#[]⟩ : ByteArray)) := (blk_cell BK167.out 0).trans rfl; have hfs52 := blk_frozen BK167.out 0; have hns52_0 := NB143_167.out; have hms52_0 := NB167_143.out; have hs53 : w51.cell? ⟨gb167, 1, none⟩ = some (.int .u32 0) := (blk_cell BK167.out 1).trans rfl; have hfs53 := blk_frozen BK167.out 1; have hns53_0 := NB143_167.out; have hms53_0 := NB167_143.out; have hs54 : w51.cell? ⟨gb167, 2, none⟩ = some (.string (⟨#[]⟩ : ByteArray)) := (blk_cell BK167.out 2).trans rfl; have hfs54 := blk_frozen BK167.out 2; have hns54_0 := NB143_167.out; have hms54_0 := NB167_143.out; have hs55 : w51.cell? ⟨gb167, 3, none⟩ = some (.int .u64 0) := (blk_cell BK167.out 3).trans rfl; have hfs55 := blk_frozen BK167.out 3; have hns55_0 := NB143_167.out; have hms55_0 := NB167_143.out; refine skip_ (w1 := ?_) (by rfl) rfl ?_ ?_
                  rotate_left
                  ·go_simp
                   rfl
                  have hne_ := Kd.own_blk (Kd.R_ne HO_9.out BK167.out (by decide)); refine hK.out _ _ (by refine (cell_far (p := ⟨gb167, 3, none⟩) (by exact hne_) _).trans ?_; refine (cell_far (p := ⟨gb167, 2, none⟩) (by exact hne_) _).trans ?_; refine (cell_far (p := ⟨gb167, 1, none⟩) (by exact hne_) _).trans ?_; refine (cell_far (p := ⟨gb167, 0, none⟩) (by exact hne_) _).trans ?_; exact hHeld) (fun hHeld => ?_)
                  clear hK K; refine done_ (done_of HT_.out (by kernel_rfl)) ?_
                  try go_wp2_with (first | ((with_reducible refine gate_callee (f := 31) rfl ?_); refine goesL_ (some 110) rfl rfl Tryd.func31 (by kernel_rfl) rfl #[.string (t145.extract (t161 : Int).toNat t145.size), .string (⟨#[13, 10]⟩ : ByteArray)] rfl (by (try simp only [List.map_toArray, List.map_cons, List.map_nil]); first | done | rfl | (simp only [List.length_drop, List.length_take]; rfl)) ?_; (with_reducible refine (strings_CutPrefix.calls (t145.extract (t161 : Int).toNat t145.size) (⟨#[13, 10]⟩ : ByteArray) t168 t169 _ A49.out).mono ?_); rintro e w56 ⟨rfl, hb⟩; refine ⟨_, rfl, ?_⟩; replace HO_9 := Aside0.mk (Kd.R_below (by (with_reducible repeat (first | apply Kd.R_alloc | apply Kd.R_drewN | apply Kd.R_drew)); exact (Kd.R_mono (Kd.R_far (p := ⟨gb167, 3, none⟩) (Kd.R_far (p := ⟨gb167, 2, none⟩) (Kd.R_far (p := ⟨gb167, 1, none⟩) (Kd.R_far (p := ⟨gb167, 0, none⟩) (Kd.R_types HO_9.out BK167.out (by decide)) (fun _ hk => hk.2) (.string (rdOf ByteArray.empty x9_11 1))) (fun _ hk => hk.2) (.int .u32 ((t158) % 4294967296))) (fun _ hk => hk.2) (.string (t145.extract 0 (t161 : Int).toNat))) (fun _ hk => hk.2) (.int .u64 t164)) (fun _ h_ => h_.1))) hb); replace BK143 := rB BK143 hb; replace BK167 := Aside0.mk (blk_below (g := gb167) (o := .cells #[.string (rdOf ByteArray.empty x9_11 1), .int .u32 ((t158) % 4294967296), .string (t145.extract 0 (t161 : Int).toNat), .int .u64 t164] 60 (0, 0)) (bV BK167.out) hb); replace HB := rS HB hb; (try clear hb); (try clear hk); have hnb57 := rP NB167_143 NB143_167; obtain ⟨hcz58, hfz58⟩ := d4 BK167; obtain ⟨hcz59, hfz59⟩ := d4 BK143))
                  refine bodyPost_ret (results_ctt rfl _ _ gb143 60 #[.string (rdOf ByteArray.empty x9_11 1), .int .u32 ((t158) % 4294967296), .string (t145.extract 0 (t161 : Int).toNat), .int .u64 t164] (0, 0) _ rfl (bV BK143.out) Tryd.underlying60 rfl (by kernel_rfl)) rfl ?_
                  exact ⟨xR, bH HB.out⟩
                 ·rw [if_neg c46] at H; exact absurd H (by simp)
                ·rw [if_neg c45] at H; exact absurd H (by simp)
               ·rw [if_neg c44] at H; exact absurd H (by simp)
           ·rw [if_neg c32] at H; exact absurd H (by simp)
          ·rw [if_neg c30] at H; exact absurd H (by simp)
         ·rw [if_neg c28] at H; exact absurd H (by simp)

end Go.Proofs.YtdgpagocccabdaaDoor.P
