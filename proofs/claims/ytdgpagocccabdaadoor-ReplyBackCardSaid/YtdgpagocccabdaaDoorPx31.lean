/- Lean functions for the Go functions that the laws of this seat use, and the proofs that the Go code computes them; conditions: the readings that each theorem names. Written by a program. -/
import Derived.Test.YtdgpagocccabdaaDoorPx0
import Derived.Test.YtdgpagocccabdaaDoorPx2
import Derived.Test.YtdgpagocccabdaaDoorPx9
import Derived.Test.YtdgpagocccabdaaDoorPx12
import Derived.Test.YtdgpagocccabdaaDoorPx24
import Derived.Test.YtdgpagocccabdaaDoorShort
namespace Go.Proofs.YtdgpagocccabdaaDoor.P
open Go.RowKit Go.Proofs.YtdgpagocccabdaaDoorW.PrintWords Go.Proofs.YtdgpagocccabdaaDoorW.PrintLast Go.Proofs.YtdgpagocccabdaaDoorW.PrintMore
set_option linter.unusedVariables false
set_option linter.unusedSimpArgs false

attribute [local go_sem high] eqA60
/-! ### tallboylaw18_works: function 18 -/
def tallboylaw18_works.f (k : Nat)  : Option (Bool) := (some (([(⟨(⟨#[107]⟩ : ByteArray), 5, (⟨#[97, 98, 99]⟩ : ByteArray), 9⟩ : S60)] : List (S60)) : List (S60))).bind fun y254 => ((reply_Text.f 1 1 y254 0).bind fun t258 => ((reply_Text.f 2 1 y254 0).bind fun t259 => (if t259.size + 4 ≤ 9223372036854775807 then ((reply_Read.f k 2 (t259 ++ (⟨#[109, 111, 114, 101]⟩ : ByteArray))).bind fun bt260 => ((reply_Read.f k 1 (⟨#[87, 72, 65, 84, 13, 10]⟩ : ByteArray)).bind fun bt268 => (if t258.toList = ([86, 65, 76, 85, 69, 32, 107, 32, 53, 32, 51, 13, 10, 97, 98, 99, 13, 10, 69, 78, 68, 13, 10] : List UInt8) then (if t259.toList = ([86, 65, 76, 85, 69, 32, 107, 32, 53, 32, 51, 32, 57, 13, 10, 97, 98, 99, 13, 10, 69, 78, 68, 13, 10] : List UInt8) then (if bt260.2.2.2.1 = (t259.size : Int) then (if bt260.2.2.2.2 = 0 then (if (bt260.2.1.length : Int) = 1 then (if 0 < (bt260.2.1.length : Int) then (if 0 < (y254.length : Int) then (if ((((rd_T60 bt260.2.1 0).f0).toList) == (((rd_T60 y254 0).f0).toList) && (((rd_T60 bt260.2.1 0).f1) == ((rd_T60 y254 0).f1) && ((((rd_T60 bt260.2.1 0).f2).toList) == (((rd_T60 y254 0).f2).toList) && (((rd_T60 bt260.2.1 0).f3) == ((rd_T60 y254 0).f3))))) = true then (if bt268.2.2.2.2 = 6 then ((reply_Complaint.f 3).bind fun t278 => (if t278.toList = ([69, 82, 82, 79, 82, 13, 10] : List UInt8) then ((reply_Text.f 12 7 ([] : List (S60)) 7).bind fun t279 => (some (t279.toList == ([55, 13, 10] : List UInt8)))) else (none))) else (none)) else (none)) else (none)) else (none)) else (none)) else (none)) else (none)) else (none)) else (none)))) else (none))))
theorem tallboylaw18_works.mono : ∀ k, LeO (tallboylaw18_works.f k ) (tallboylaw18_works.f (k + 1) ) := by
 intro  k
 unfold tallboylaw18_works.f
 repeat' first | (with_reducible first | apply reply_Read.mono | exact LeO.refl _ | exact LeO.none _ | refine LeO.ite ?_ ?_ | refine LeO.bind ?_ (fun _ => ?_)) | apply reply_Read.mono | exact LeO.none _ | refine LeO.ite ?_ ?_ | refine LeO.bind ?_ (fun _ => ?_)
def tallboylaw18_works.T6 : Bool × List (List Nat × List Nat) := (true, [([], []), ([0], [0]), ([1], [1]), ([2], [2]), ([3, 2], [2, 3]), ([2, 4], [2, 4]), ([5, 2], [5]), ([6], [6]), ([6], [6]), ([8, 6], [6, 8]), ([7, 9, 6], [6, 7, 9]), ([6, 10], [6, 10]), ([11, 6], [11]), ([12], [12]), ([13, 12], [12, 13]), ([12, 14], [12, 14]), ([15, 12], [15]), ([16], [16]), ([17, 16], [16, 17]), ([18, 16], [16, 18]), ([19, 16], [16, 19]), ([16, 20], [16, 20]), ([21, 16], [21]), ([22], [22]), ([23, 22], [22, 23]), ([24, 22], [22, 24]), ([25, 22], [22, 25]), ([22], [22]), ([27, 22], [22, 27]), ([28, 22], [22, 28]), ([29, 22], [22, 29]), ([26, 30, 22], [22, 26, 30]), ([22, 31], [22, 31]), ([32, 22], [32]), ([33], [33]), ([34, 33], [33, 34]), ([33, 35], [33, 35]), ([36, 33], [36]), ([37, 37], [37]), ([38, 37], [37, 38]), ([37, 39], [37, 39]), ([40, 38], [40]), ([41], [41]), ([42, 41, 41], [41, 42]), ([43, 41], [41, 43]), ([41, 44], [41, 44]), ([45, 43, 0, 1, 2, 3, 4, 5, 6, 7, 8, 9, 10, 11, 12, 13, 14, 15, 16, 17, 18, 19, 20, 21, 22, 23, 24, 25, 26, 27, 28, 29, 30, 31, 32, 33, 34, 35, 36, 37, 38, 39, 40, 41, 42, 43, 44, 45], [45])])
def tallboylaw18_works.B6 : List Nat := [0, 1, 3, 7, 15, 31, 63, 127, 127, 383, 1023, 2047, 4095, 8191, 16383, 32767, 65535, 131071, 262143, 524287, 1048575, 2097151, 4194303, 8388607, 16777215, 33554431, 67108863, 8388607, 142606335, 411041791, 947912703, 2147483647, 4294967295, 8589934591, 17179869183, 34359738367, 68719476735, 137438953471, 274877906943, 549755813887, 1099511627775, 2199023255551, 4398046511103, 8796093022207, 17592186044415, 35184372088831, 70368744177663]
theorem tallboylaw18_works.tab6 : rtab .any (opsOf Tryd.f18 6) = tallboylaw18_works.T6 := by kernel_rfl
theorem tallboylaw18_works.bits6 : waitsOk tallboylaw18_works.T6.2 tallboylaw18_works.B6 = true := by kernel_rfl
set_option maxHeartbeats 8000000 in
set_option maxRecDepth 100000 in
theorem tallboylaw18_works.calls (k : Nat)  (r : Bool) (w : World) (h : tallboylaw18_works.f k  = some r) (hL : LdU w) :
  Calls Tryd.prog 18 #[] w fun e w' => e = .returned (.bool r) ∧ Below w.heap.size w w' := by
 have HL := Aside0.mk hL; clear hL; have hu60 := Tryd.underlying60; have hu30 := Tryd.underlying30; have HB := Aside0.mk (Below.refl w.heap.size w); have H : ((some (([(⟨(⟨#[107]⟩ : ByteArray), 5, (⟨#[97, 98, 99]⟩ : ByteArray), 9⟩ : S60)] : List (S60)) : List (S60))).bind fun y254 => ((reply_Text.f 1 1 y254 0).bind fun t258 => ((reply_Text.f 2 1 y254 0).bind fun t259 => (if t259.size + 4 ≤ 9223372036854775807 then ((reply_Read.f k 2 (t259 ++ (⟨#[109, 111, 114, 101]⟩ : ByteArray))).bind fun bt260 => ((reply_Read.f k 1 (⟨#[87, 72, 65, 84, 13, 10]⟩ : ByteArray)).bind fun bt268 => (if t258.toList = ([86, 65, 76, 85, 69, 32, 107, 32, 53, 32, 51, 13, 10, 97, 98, 99, 13, 10, 69, 78, 68, 13, 10] : List UInt8) then (if t259.toList = ([86, 65, 76, 85, 69, 32, 107, 32, 53, 32, 51, 32, 57, 13, 10, 97, 98, 99, 13, 10, 69, 78, 68, 13, 10] : List UInt8) then (if bt260.2.2.2.1 = (t259.size : Int) then (if bt260.2.2.2.2 = 0 then (if (bt260.2.1.length : Int) = 1 then (if 0 < (bt260.2.1.length : Int) then (if 0 < (y254.length : Int) then (if ((((rd_T60 bt260.2.1 0).f0).toList) == (((rd_T60 y254 0).f0).toList) && (((rd_T60 bt260.2.1 0).f1) == ((rd_T60 y254 0).f1) && ((((rd_T60 bt260.2.1 0).f2).toList) == (((rd_T60 y254 0).f2).toList) && (((rd_T60 bt260.2.1 0).f3) == ((rd_T60 y254 0).f3))))) = true then (if bt268.2.2.2.2 = 6 then ((reply_Complaint.f 3).bind fun t278 => (if t278.toList = ([69, 82, 82, 79, 82, 13, 10] : List UInt8) then ((reply_Text.f 12 7 ([] : List (S60)) 7).bind fun t279 => (some (t279.toList == ([55, 13, 10] : List UInt8)))) else (none))) else (none)) else (none)) else (none)) else (none)) else (none)) else (none)) else (none)) else (none)) else (none)))) else (none))))) = some r := h; clear h; obtain ⟨y254, hy254⟩ : ∃ y_ : List (S60), y_ = (([(⟨(⟨#[107]⟩ : ByteArray), 5, (⟨#[97, 98, 99]⟩ : ByteArray), 9⟩ : S60)] : List (S60))) := ⟨_, rfl⟩; replace H : ((reply_Text.f 1 1 y254 0).bind fun t258 => ((reply_Text.f 2 1 y254 0).bind fun t259 => (if t259.size + 4 ≤ 9223372036854775807 then ((reply_Read.f k 2 (t259 ++ (⟨#[109, 111, 114, 101]⟩ : ByteArray))).bind fun bt260 => ((reply_Read.f k 1 (⟨#[87, 72, 65, 84, 13, 10]⟩ : ByteArray)).bind fun bt268 => (if t258.toList = ([86, 65, 76, 85, 69, 32, 107, 32, 53, 32, 51, 13, 10, 97, 98, 99, 13, 10, 69, 78, 68, 13, 10] : List UInt8) then (if t259.toList = ([86, 65, 76, 85, 69, 32, 107, 32, 53, 32, 51, 32, 57, 13, 10, 97, 98, 99, 13, 10, 69, 78, 68, 13, 10] : List UInt8) then (if bt260.2.2.2.1 = (t259.size : Int) then (if bt260.2.2.2.2 = 0 then (if (bt260.2.1.length : Int) = 1 then (if 0 < (bt260.2.1.length : Int) then (if 0 < (y254.length : Int) then (if ((((rd_T60 bt260.2.1 0).f0).toList) == (((rd_T60 y254 0).f0).toList) && (((rd_T60 bt260.2.1 0).f1) == ((rd_T60 y254 0).f1) && ((((rd_T60 bt260.2.1 0).f2).toList) == (((rd_T60 y254 0).f2).toList) && (((rd_T60 bt260.2.1 0).f3) == ((rd_T60 y254 0).f3))))) = true then (if bt268.2.2.2.2 = 6 then ((reply_Complaint.f 3).bind fun t278 => (if t278.toList = ([69, 82, 82, 79, 82, 13, 10] : List UInt8) then ((reply_Text.f 12 7 ([] : List (S60)) 7).bind fun t279 => (some (t279.toList == ([55, 13, 10] : List UInt8)))) else (none))) else (none)) else (none)) else (none)) else (none)) else (none)) else (none)) else (none)) else (none)) else (none)))) else (none)))) = some r := by first | (rw [hy254]; with_reducible exact H) | (have H2_ := (Option.bind_some _ _).symm.trans H; rw [hy254]; with_reducible exact H2_) | (have H2_ := (Option.bind_some _ _).symm.trans H; with_reducible exact H2_) | with_reducible exact H | (rw [hy254]; exact H) | exact H
 have Ny254 := Aside0.mk hy254; clear hy254; replace H := Option.bind_eq_some_iff.mp H; obtain ⟨t258, A10, H⟩ := H; (try dsimp only at H); have A1 := Aside0.mk A10; clear A10; replace H := Option.bind_eq_some_iff.mp H; obtain ⟨t259, A20, H⟩ := H; (try dsimp only at H); have A2 := Aside0.mk A20
 clear A20
 by_cases c3 : t259.size + 4 ≤ 9223372036854775807
 ·rw [if_pos c3] at H; have c3b0 := eq_true c3; have c3b1 : decide (t259.size + 4 ≤ 9223372036854775807) = true := decide_eq_true c3
  try have c3b2 : (9223372036854775807 < t259.size + 4) = False := eq_false (Nat.not_lt.2 c3)
  replace H := Option.bind_eq_some_iff.mp H; obtain ⟨⟨t260, t261, t264, t265, t266⟩, A40, H⟩ := H; (try dsimp only at H); have A4 := Aside0.mk A40; clear A40; replace H := Option.bind_eq_some_iff.mp H; obtain ⟨⟨t268, t269, t272, t273, t274⟩, A50, H⟩ := H; (try dsimp only at H); have A5 := Aside0.mk A50; clear A50
  by_cases c6 : t258.toList = ([86, 65, 76, 85, 69, 32, 107, 32, 53, 32, 51, 13, 10, 97, 98, 99, 13, 10, 69, 78, 68, 13, 10] : List UInt8)
  ·rw [if_pos c6] at H; have c6b0 : (t258.toList == ([86, 65, 76, 85, 69, 32, 107, 32, 53, 32, 51, 13, 10, 97, 98, 99, 13, 10, 69, 78, 68, 13, 10] : List UInt8)) = true := beq_iff_eq.mpr c6; have c6b1 : (t258.toList != ([86, 65, 76, 85, 69, 32, 107, 32, 53, 32, 51, 13, 10, 97, 98, 99, 13, 10, 69, 78, 68, 13, 10] : List UInt8)) = false := bne_eq_false_iff_eq.mpr c6; clear c6
   by_cases c7 : t259.toList = ([86, 65, 76, 85, 69, 32, 107, 32, 53, 32, 51, 32, 57, 13, 10, 97, 98, 99, 13, 10, 69, 78, 68, 13, 10] : List UInt8)
   ·rw [if_pos c7] at H; have c7b0 : (t259.toList == ([86, 65, 76, 85, 69, 32, 107, 32, 53, 32, 51, 32, 57, 13, 10, 97, 98, 99, 13, 10, 69, 78, 68, 13, 10] : List UInt8)) = true := beq_iff_eq.mpr c7; have c7b1 : (t259.toList != ([86, 65, 76, 85, 69, 32, 107, 32, 53, 32, 51, 32, 57, 13, 10, 97, 98, 99, 13, 10, 69, 78, 68, 13, 10] : List UInt8)) = false := bne_eq_false_iff_eq.mpr c7; clear c7
    by_cases c8 : t265 = (t259.size : Int)
    ·rw [if_pos c8] at H; have c8b0 : (t265 == (t259.size : Int)) = true := beq_iff_eq.mpr c8; have c8b1 : (t265 != (t259.size : Int)) = false := bne_eq_false_iff_eq.mpr c8; clear c8
     by_cases c9 : t266 = 0
     ·rw [if_pos c9] at H; have c9b0 : (t266 == 0) = true := beq_iff_eq.mpr c9; have c9b1 : (t266 != 0) = false := bne_eq_false_iff_eq.mpr c9; clear c9
      by_cases c10 : (t261.length : Int) = 1
      ·rw [if_pos c10] at H; have c10b0 : ((t261.length : Int) == 1) = true := beq_iff_eq.mpr c10; have c10b1 : ((t261.length : Int) != 1) = false := bne_eq_false_iff_eq.mpr c10; clear c10
       by_cases c11 : 0 < (t261.length : Int)
       ·rw [if_pos c11] at H; have c11b0 : decide (0 < (t261.length : Int)) = true := decide_eq_true c11; have c11b1 : decide (0 < t261.length) = true := decide_eq_true (by omega); clear c11
        by_cases c12 : 0 < (y254.length : Int)
        ·rw [if_pos c12] at H; have c12b0 : decide (0 < (y254.length : Int)) = true := decide_eq_true c12; have c12b1 : decide (0 < y254.length) = true := decide_eq_true (by omega); clear c12
         by_cases c13 : ((((rd_T60 t261 0).f0).toList) == (((rd_T60 y254 0).f0).toList) && (((rd_T60 t261 0).f1) == ((rd_T60 y254 0).f1) && ((((rd_T60 t261 0).f2).toList) == (((rd_T60 y254 0).f2).toList) && (((rd_T60 t261 0).f3) == ((rd_T60 y254 0).f3))))) = true
         ·rw [if_pos c13] at H; have c13b0 : ((((rd_T60 t261 0).f0).toList) == (((rd_T60 y254 0).f0).toList) && (((rd_T60 t261 0).f1) == ((rd_T60 y254 0).f1) && ((((rd_T60 t261 0).f2).toList) == (((rd_T60 y254 0).f2).toList) && (((rd_T60 t261 0).f3) == ((rd_T60 y254 0).f3))))) = true := c13
          (try (have c13b1 : decide ((((rd_T60 t261 0).f0).toList) = (((rd_T60 y254 0).f0).toList) && (((rd_T60 t261 0).f1) == ((rd_T60 y254 0).f1) && ((((rd_T60 t261 0).f2).toList) == (((rd_T60 y254 0).f2).toList) && (((rd_T60 t261 0).f3) == ((rd_T60 y254 0).f3))))) = true := by simpa using c13))
          (try (have c13b2 : ((((rd_T60 t261 0).f0).toList) == (((rd_T60 y254 0).f0).toList) && (((rd_T60 t261 0).f1) == ((rd_T60 y254 0).f1) && ((((rd_T60 t261 0).f2).toList) == (((rd_T60 y254 0).f2).toList) && (((rd_T60 t261 0).f3) == ((rd_T60 y254 0).f3))))) = true := by simpa using c13))
          clear c13
          by_cases c14 : t274 = 6
          ·rw [if_pos c14] at H; have c14b0 : (t274 == 6) = true := beq_iff_eq.mpr c14; have c14b1 : (t274 != 6) = false := bne_eq_false_iff_eq.mpr c14; clear c14; replace H := Option.bind_eq_some_iff.mp H; obtain ⟨t278, A150, H⟩ := H; (try dsimp only at H); have A15 := Aside0.mk A150; clear A150
           by_cases c16 : t278.toList = ([69, 82, 82, 79, 82, 13, 10] : List UInt8)
           ·rw [if_pos c16] at H; have c16b0 : (t278.toList == ([69, 82, 82, 79, 82, 13, 10] : List UInt8)) = true := beq_iff_eq.mpr c16; have c16b1 : (t278.toList != ([69, 82, 82, 79, 82, 13, 10] : List UInt8)) = false := bne_eq_false_iff_eq.mpr c16; clear c16; replace H := Option.bind_eq_some_iff.mp H; obtain ⟨t279, A170, H⟩ := H; (try dsimp only at H); have A17 := Aside0.mk A170; clear A170; obtain rfl := Option.some.inj H; go_enter Tryd.func18, Tryd.ntmps18
            try go_wp2_with (first | ((with_reducible refine gate_dst (N := 11) rfl ?_); (try (refine gate_guard (by rfl) ?_; dsimp only)); refine Kd.R_lit k60 _ 60 ?hg (N := 11) ?hd (xs := ([(⟨(⟨#[107]⟩ : ByteArray), 5, (⟨#[97, 98, 99]⟩ : ByteArray), 9⟩ : S60)] : List (S60))) (inner := [.string (⟨#[107]⟩ : ByteArray), .int .u32 5, .string (⟨#[97, 98, 99]⟩ : ByteArray), .int .u64 9]) (ok := fun _ => True) (okp := fun _ => True) ?hr ?hp (fun _ hk => hk) trivial (Below.refl _ _) (Nat.le_refl _) (by simp) ?_; (case hd => rfl); (case hg => rfl); (case hr => first | (go_simp; done) | (go_simp; rfl)); (case hp => exact (Reps.c4 (show Kd.M k60 _ _ _ (⟨(⟨#[107]⟩ : ByteArray), 5, (⟨#[97, 98, 99]⟩ : ByteArray), 9⟩ : S60) [.string (⟨#[107]⟩ : ByteArray), .int .u32 5, .string (⟨#[97, 98, 99]⟩ : ByteArray), .int .u64 9] from (k60_mkM _ _ _ (⟨(⟨#[107]⟩ : ByteArray), 5, (⟨#[97, 98, 99]⟩ : ByteArray), 9⟩ : S60) )) (Reps.none _ _))); intro v255 w18 ho19 hb hg_ hnew_; clear hg_ hnew_; (first | rw [← Ny254.out] at ho19 | (simp only [Int.reduceToNat] at ho19; rw [← Ny254.out] at ho19)); have HO256 := Aside0.mk (Kd.R_lower ho19 (below_size (bH HB.out))); replace HB := rS HB hb; clear hb ho19; obtain ⟨Ao20, co20, eo20⟩ := Kd.R_slice HO256.out; subst eo20) | ((with_reducible refine gate_dst (N := 1) rfl ?_); (try (refine gate_guard (by rfl) ?_; dsimp only)); refine bE 1 #[.int .i64 0, .slice none 0 0, .int .u64 0] 30 rfl rfl ?_; intro gb257 hg w21 hbox hb; replace HO256 := Aside0.mk (Kd.R_below (by (with_reducible repeat (first | apply Kd.R_alloc | apply Kd.R_drewN | apply Kd.R_drew)); exact HO256.out) hb); have BK257 := rM hbox; have GW257 := rG HB hg; replace HB := rS HB hb; have GE257 := GW257; clear hb hbox hg; obtain ⟨hcz22, hfz22⟩ := d3 BK257) | ((with_reducible refine gate_callee (f := 9) rfl ?_); refine goesL_ (some 14) rfl rfl Tryd.func9 (by kernel_rfl) rfl #[.int .i64 1, .agg #[.int .i64 1, .slice Ao20 y254.length co20, .int .u64 0]] rfl (by (try simp only [List.map_toArray, List.map_cons, List.map_nil]); first | done | rfl | (simp only [List.length_drop, List.length_take]; rfl)) ?_; (with_reducible refine (reply_Text.calls 1 1 _ _ y254 0 t258 _ ?side1 ?side2 A1.out (by first | exact (LdS.t (LdU.s HL.out)) | exact LdT.on (LdS.t (LdU.s HL.out)) (bH HB.out))).mono ?_); (case side1 => refine (Kd.R_reads' (e := 60) (base := w.heap.size) (ok := fun k_ => True) (n := y254.length) (c := co20) ?_).2.2; exact (by (with_reducible repeat (first | apply Kd.R_alloc | apply Kd.R_drewN | apply Kd.R_drew)); exact (Kd.R_mono (Kd.R_far (p := ⟨gb257, 2, none⟩) (Kd.R_far (p := ⟨gb257, 1, none⟩) (Kd.R_far (p := ⟨gb257, 0, none⟩) (Kd.R_types HO256.out BK257.out (by decide)) (fun _ hk => hk.2) (.int .i64 1)) (fun _ hk => hk.2) (.slice Ao20 y254.length co20)) (fun _ hk => hk.2) (.int .u64 0)) (fun _ h_ => h_.1)))); (case side2 => exact (Kd.R_reads' HO256.out).2.1); rintro e w23 ⟨rfl, hb⟩; refine ⟨_, rfl, ?_⟩; replace HO256 := Aside0.mk (Kd.R_below (by (with_reducible repeat (first | apply Kd.R_alloc | apply Kd.R_drewN | apply Kd.R_drew)); exact (Kd.R_mono (Kd.R_far (p := ⟨gb257, 2, none⟩) (Kd.R_far (p := ⟨gb257, 1, none⟩) (Kd.R_far (p := ⟨gb257, 0, none⟩) (Kd.R_types HO256.out BK257.out (by decide)) (fun _ hk => hk.2) (.int .i64 1)) (fun _ hk => hk.2) (.slice Ao20 y254.length co20)) (fun _ hk => hk.2) (.int .u64 0)) (fun _ h_ => h_.1))) hb); replace BK257 := Aside0.mk (blk_below (g := gb257) (o := .cells #[.int .i64 1, .slice Ao20 y254.length co20, .int .u64 0] 30 (0, 0)) (bV BK257.out) hb); replace HB := rS HB hb; (try clear hb); (try clear hk); obtain ⟨hcz24, hfz24⟩ := d3 BK257) | ((with_reducible refine gate_callee (f := 9) rfl ?_); refine goesL_ (some 16) rfl rfl Tryd.func9 (by kernel_rfl) rfl #[.int .i64 2, .agg #[.int .i64 1, .slice Ao20 y254.length co20, .int .u64 0]] rfl (by (try simp only [List.map_toArray, List.map_cons, List.map_nil]); first | done | rfl | (simp only [List.length_drop, List.length_take]; rfl)) ?_; (with_reducible refine (reply_Text.calls 2 1 _ _ y254 0 t259 _ ?side1 ?side2 A2.out (by first | exact (LdS.t (LdU.s HL.out)) | exact LdT.on (LdS.t (LdU.s HL.out)) (bH HB.out))).mono ?_); (case side1 => repeat (first | exact (Kd.R_reads' HO256.out).2.2 | (with_reducible refine Kd.C_alloc ?_ _) | (with_reducible refine Kd.C_drewN ?_ _) | (with_reducible refine Kd.C_drew ?_))); (case side2 => exact (Kd.R_reads' HO256.out).2.1); rintro e w25 ⟨rfl, hb⟩; refine ⟨_, rfl, ?_⟩; replace HO256 := Aside0.mk (Kd.R_below (by (with_reducible repeat (first | apply Kd.R_alloc | apply Kd.R_drewN | apply Kd.R_drew)); exact HO256.out) hb); replace BK257 := rB BK257 hb; replace HB := rS HB hb; (try clear hb); (try clear hk); ) | ((with_reducible refine gate_callee (f := 14) rfl ?_); refine goesL_ (some 20) rfl rfl Tryd.func14 (by kernel_rfl) rfl #[.int .i64 2, .string (t259 ++ (⟨#[109, 111, 114, 101]⟩ : ByteArray))] rfl (by (try simp only [List.map_toArray, List.map_cons, List.map_nil]); first | done | rfl | (simp only [List.length_drop, List.length_take]; rfl)) ?_; (with_reducible refine (reply_Read.calls k 2 (t259 ++ (⟨#[109, 111, 114, 101]⟩ : ByteArray)) t260 t261 t264 t265 t266 _ A4.out (by first | exact HL.out | exact LdU.on HL.out (bH HB.out))).mono ?_); rintro e w26 ⟨v262, rfl, ho0, hb⟩; refine ⟨_, rfl, ?_⟩; have HO263 := Aside0.mk (Kd.R_lower (Kd.R_new' ho0 (Kd.R_lt (by (with_reducible repeat (first | apply Kd.R_alloc | apply Kd.R_drewN | apply Kd.R_drew)); exact HO256.out))) (below_size (bH HB.out))); replace HO256 := Aside0.mk (Kd.R_elder' (by (with_reducible repeat (first | apply Kd.R_alloc | apply Kd.R_drewN | apply Kd.R_drew)); exact HO256.out) (Kd.R_base ho0) hb); replace BK257 := rB BK257 hb; replace HB := rS HB hb; (try clear hb); (try clear hk); (try clear ho0)) | ((with_reducible refine gate_dst (N := 4) rfl ?_); (try (refine gate_guard (by rfl) ?_; dsimp only)); refine bE 4 #[.int .i64 0, .slice none 0 0, .int .u64 0] 30 rfl rfl ?_; intro gb267 hg w27 hbox hb; replace HO256 := Aside0.mk (Kd.R_below (by (with_reducible repeat (first | apply Kd.R_alloc | apply Kd.R_drewN | apply Kd.R_drew)); exact HO256.out) hb); replace HO263 := Aside0.mk (Kd.R_below (by (with_reducible repeat (first | apply Kd.R_alloc | apply Kd.R_drewN | apply Kd.R_drew)); exact HO263.out) hb); have BK267 := rM hbox; have GW267 := rG HB hg; replace HB := rS HB hb; have GE267 := GW267; have NB257_267 := rN BK257 hg; replace BK257 := rB BK257 hb; have NB267_257 := rY NB257_267; clear hb hbox hg; have hnb28 := rP NB267_257 NB257_267; obtain ⟨hcz29, hfz29⟩ := d3 BK267; obtain ⟨Ao30, co30, eo30⟩ := Kd.R_slice HO263.out; subst eo30) | ((with_reducible refine gate_callee (f := 14) rfl ?_); refine goesL_ (some 25) rfl rfl Tryd.func14 (by kernel_rfl) rfl #[.int .i64 1, .string (⟨#[87, 72, 65, 84, 13, 10]⟩ : ByteArray)] rfl (by (try simp only [List.map_toArray, List.map_cons, List.map_nil]); first | done | rfl | (simp only [List.length_drop, List.length_take]; rfl)) ?_; (with_reducible refine (reply_Read.calls k 1 (⟨#[87, 72, 65, 84, 13, 10]⟩ : ByteArray) t268 t269 t272 t273 t274 _ A5.out (by first | exact HL.out | exact LdU.on HL.out (bH HB.out))).mono ?_); rintro e w31 ⟨v270, rfl, ho0, hb⟩; refine ⟨_, rfl, ?_⟩; have HO271 := Aside0.mk (Kd.R_lower (Kd.R_new' (Kd.R_new' ho0 (Kd.R_lt (by (with_reducible repeat (first | apply Kd.R_alloc | apply Kd.R_drewN | apply Kd.R_drew)); exact (Kd.R_mono (Kd.R_far (p := ⟨gb267, 2, none⟩) (Kd.R_far (p := ⟨gb267, 1, none⟩) (Kd.R_far (p := ⟨gb267, 0, none⟩) (Kd.R_types HO256.out BK267.out (by decide)) (fun _ hk => hk.2) (.int .i64 t260)) (fun _ hk => hk.2) (.slice Ao30 t261.length co30)) (fun _ hk => hk.2) (.int .u64 t264)) (fun _ h_ => h_.1))))) (Kd.R_lt (by (with_reducible repeat (first | apply Kd.R_alloc | apply Kd.R_drewN | apply Kd.R_drew)); exact (Kd.R_mono (Kd.R_far (p := ⟨gb267, 2, none⟩) (Kd.R_far (p := ⟨gb267, 1, none⟩) (Kd.R_far (p := ⟨gb267, 0, none⟩) (Kd.R_types HO263.out BK267.out (by decide)) (fun _ hk => hk.2) (.int .i64 t260)) (fun _ hk => hk.2) (.slice Ao30 t261.length co30)) (fun _ hk => hk.2) (.int .u64 t264)) (fun _ h_ => h_.1))))) (below_size (bH HB.out))); replace HO256 := Aside0.mk (Kd.R_elder' (by (with_reducible repeat (first | apply Kd.R_alloc | apply Kd.R_drewN | apply Kd.R_drew)); exact (Kd.R_mono (Kd.R_far (p := ⟨gb267, 2, none⟩) (Kd.R_far (p := ⟨gb267, 1, none⟩) (Kd.R_far (p := ⟨gb267, 0, none⟩) (Kd.R_types HO256.out BK267.out (by decide)) (fun _ hk => hk.2) (.int .i64 t260)) (fun _ hk => hk.2) (.slice Ao30 t261.length co30)) (fun _ hk => hk.2) (.int .u64 t264)) (fun _ h_ => h_.1))) (Kd.R_base ho0) hb); replace HO263 := Aside0.mk (Kd.R_elder' (by (with_reducible repeat (first | apply Kd.R_alloc | apply Kd.R_drewN | apply Kd.R_drew)); exact (Kd.R_mono (Kd.R_far (p := ⟨gb267, 2, none⟩) (Kd.R_far (p := ⟨gb267, 1, none⟩) (Kd.R_far (p := ⟨gb267, 0, none⟩) (Kd.R_types HO263.out BK267.out (by decide)) (fun _ hk => hk.2) (.int .i64 t260)) (fun _ hk => hk.2) (.slice Ao30 t261.length co30)) (fun _ hk => hk.2) (.int .u64 t264)) (fun _ h_ => h_.1))) (Kd.R_base ho0) hb); replace BK257 := rB BK257 hb; replace BK267 := Aside0.mk (blk_below (g := gb267) (o := .cells #[.int .i64 t260, .slice Ao30 t261.length co30, .int .u64 t264] 30 (0, 0)) (bV BK267.out) hb); replace HB := rS HB hb; (try clear hb); (try clear hk); (try clear ho0)) | ((with_reducible refine gate_dst (N := 7) rfl ?_); (try (refine gate_guard (by rfl) ?_; dsimp only)); refine bE 7 #[.int .i64 0, .slice none 0 0, .int .u64 0] 30 rfl rfl ?_; intro gb275 hg w32 hbox hb; replace HO256 := Aside0.mk (Kd.R_below (by (with_reducible repeat (first | apply Kd.R_alloc | apply Kd.R_drewN | apply Kd.R_drew)); exact HO256.out) hb); replace HO263 := Aside0.mk (Kd.R_below (by (with_reducible repeat (first | apply Kd.R_alloc | apply Kd.R_drewN | apply Kd.R_drew)); exact HO263.out) hb); replace HO271 := Aside0.mk (Kd.R_below (by (with_reducible repeat (first | apply Kd.R_alloc | apply Kd.R_drewN | apply Kd.R_drew)); exact HO271.out) hb); have BK275 := rM hbox; have GW275 := rG HB hg; replace HB := rS HB hb; have GE275 := GW275; have NB257_275 := rN BK257 hg; replace BK257 := rB BK257 hb; have NB275_257 := rY NB257_275; have NB267_275 := rN BK267 hg; replace BK267 := rB BK267 hb; have NB275_267 := rY NB267_275; clear hb hbox hg; have hnb33 := rP NB275_257 NB257_275; have hnb34 := rP NB275_267 NB267_275; obtain ⟨hcz35, hfz35⟩ := d3 BK275; obtain ⟨Ao36, co36, eo36⟩ := Kd.R_slice HO271.out; subst eo36))
            have n0_ : Aside0 (Kd.R k60 60 (((w32.setCell ⟨gb275, 0, none⟩ (.int .i64 t268)).setCell ⟨gb275, 1, none⟩ (.slice Ao36 t269.length co36)).setCell ⟨gb275, 2, none⟩ (.int .u64 t272)) w.heap.size (fun k_ => some k_ ≠ (.slice Ao30 t261.length co30 : Value).ownBlock ∧ some k_ ≠ (.slice Ao36 t269.length co36 : Value).ownBlock) (.slice Ao20 y254.length co20) y254) := ⟨by (with_reducible repeat (first | apply Kd.R_alloc | apply Kd.R_drewN | apply Kd.R_drew)); exact Kd.R_mono (Kd.R_far (p := ⟨gb275, 2, none⟩) (Kd.R_far (p := ⟨gb275, 1, none⟩) (Kd.R_far (p := ⟨gb275, 0, none⟩) (Kd.R_types HO256.out BK275.out (by decide)) (fun _ hk => hk.2) (.int .i64 t268)) (fun _ hk => hk.2) (.slice Ao36 t269.length co36)) (fun _ hk => hk.2) (.int .u64 t272)) (fun _ hk => ⟨hk.1.1.2, hk.1.2⟩)⟩; have n1_ : Aside0 (Kd.R k60 60 (((w32.setCell ⟨gb275, 0, none⟩ (.int .i64 t268)).setCell ⟨gb275, 1, none⟩ (.slice Ao36 t269.length co36)).setCell ⟨gb275, 2, none⟩ (.int .u64 t272)) w.heap.size (fun k_ => some k_ ≠ (.slice Ao20 y254.length co20 : Value).ownBlock ∧ some k_ ≠ (.slice Ao36 t269.length co36 : Value).ownBlock) (.slice Ao30 t261.length co30) t261) := ⟨by (with_reducible repeat (first | apply Kd.R_alloc | apply Kd.R_drewN | apply Kd.R_drew)); exact Kd.R_mono (Kd.R_far (p := ⟨gb275, 2, none⟩) (Kd.R_far (p := ⟨gb275, 1, none⟩) (Kd.R_far (p := ⟨gb275, 0, none⟩) (Kd.R_types HO263.out BK275.out (by decide)) (fun _ hk => hk.2) (.int .i64 t268)) (fun _ hk => hk.2) (.slice Ao36 t269.length co36)) (fun _ hk => hk.2) (.int .u64 t272)) (fun _ hk => ⟨hk.1.1.2, hk.1.2⟩)⟩; have n2_ : Aside0 (Kd.R k60 60 (((w32.setCell ⟨gb275, 0, none⟩ (.int .i64 t268)).setCell ⟨gb275, 1, none⟩ (.slice Ao36 t269.length co36)).setCell ⟨gb275, 2, none⟩ (.int .u64 t272)) w.heap.size (fun k_ => some k_ ≠ (.slice Ao20 y254.length co20 : Value).ownBlock ∧ some k_ ≠ (.slice Ao30 t261.length co30 : Value).ownBlock) (.slice Ao36 t269.length co36) t269) := ⟨by (with_reducible repeat (first | apply Kd.R_alloc | apply Kd.R_drewN | apply Kd.R_drew)); exact Kd.R_mono (Kd.R_far (p := ⟨gb275, 2, none⟩) (Kd.R_far (p := ⟨gb275, 1, none⟩) (Kd.R_far (p := ⟨gb275, 0, none⟩) (Kd.R_types HO271.out BK275.out (by decide)) (fun _ hk => hk.2) (.int .i64 t268)) (fun _ hk => hk.2) (.slice Ao36 t269.length co36)) (fun _ hk => hk.2) (.int .u64 t272)) (fun _ hk => ⟨hk.1.1.2, hk.1.2⟩)⟩
            have n3_ : Aside0 ((((w32.setCell ⟨gb275, 0, none⟩ (.int .i64 t268)).setCell ⟨gb275, 1, none⟩ (.slice Ao36 t269.length co36)).setCell ⟨gb275, 2, none⟩ (.int .u64 t272)).heap[gb257]? = some (.cells #[.int .i64 1, .slice Ao20 y254.length co20, .int .u64 0] 30 (0, 0))) := ⟨bK BK257.out⟩; have n4_ : Aside0 ((((w32.setCell ⟨gb275, 0, none⟩ (.int .i64 t268)).setCell ⟨gb275, 1, none⟩ (.slice Ao36 t269.length co36)).setCell ⟨gb275, 2, none⟩ (.int .u64 t272)).heap[gb267]? = some (.cells #[.int .i64 t260, .slice Ao30 t261.length co30, .int .u64 t264] 30 (0, 0))) := ⟨bK BK267.out⟩; have n5_ : Aside0 ((((w32.setCell ⟨gb275, 0, none⟩ (.int .i64 t268)).setCell ⟨gb275, 1, none⟩ (.slice Ao36 t269.length co36)).setCell ⟨gb275, 2, none⟩ (.int .u64 t272)).heap[gb275]? = some (.cells #[.int .i64 t268, .slice Ao36 t269.length co36, .int .u64 t272] 30 (0, 0))) := ⟨bV BK275.out⟩
            have n6_ : Aside0 (Below w.heap.size w (((w32.setCell ⟨gb275, 0, none⟩ (.int .i64 t268)).setCell ⟨gb275, 1, none⟩ (.slice Ao36 t269.length co36)).setCell ⟨gb275, 2, none⟩ (.int .u64 t272))) := ⟨bH HB.out⟩
            (try clear HO256)
            (try clear HO263)
            (try clear HO271)
            (try clear BK257)
            (try clear BK267)
            (try clear BK275)
            (try clear HB)
            generalize (((w32.setCell ⟨gb275, 0, none⟩ (.int .i64 t268)).setCell ⟨gb275, 1, none⟩ (.slice Ao36 t269.length co36)).setCell ⟨gb275, 2, none⟩ (.int .u64 t272)) = w37 at n0_ n1_ n2_ n3_ n4_ n5_ n6_ ⊢; have HO256 := n0_; have HO263 := n1_; have HO271 := n2_; have BK257 := n3_; have BK267 := n4_; have BK275 := n5_; have HB := n6_; clear n0_ n1_ n2_ n3_ n4_ n5_ n6_; replace HO256 := Aside0.mk (Kd.R_drew HO256.out); replace HO263 := Aside0.mk (Kd.R_drew HO263.out); replace HO271 := Aside0.mk (Kd.R_drew HO271.out); replace BK257 := Aside0.mk (bD BK257.out); replace BK267 := Aside0.mk (bD BK267.out); replace BK275 := Aside0.mk (bD BK275.out); replace HB := Aside0.mk (eD HB.out); have p276 : 0 ≤ (0 : Int) := (by omega); have q276 : 0 < (t261.length : Int) := of_decide_eq_true (by first | (with_reducible assumption) | assumption)
            obtain ⟨ad276, e276, hx276_0, hx276_1, hx276_2, hx276_3⟩ := at_T60 (Kd.R_reads' HO263.out).2.2 0 p276 q276; cases e276; have qi276 : (0 < t261.length) = True := eq_true (by omega)
            (try rw [show ((0 : Int)).toNat = 0 from rfl] at hx276_0)
            (try rw [show 0 * 4 = 0 from rfl] at hx276_0)
            (try rw [Addr.add_zero'] at hx276_0)
            (try rw [show ((0 : Int)).toNat = 0 from rfl] at hx276_1)
            (try rw [show 0 * 4 = 0 from rfl] at hx276_1)
            (try rw [Addr.add_zero'] at hx276_1)
            (try rw [show ((0 : Int)).toNat = 0 from rfl] at hx276_2)
            (try rw [show 0 * 4 = 0 from rfl] at hx276_2)
            (try rw [Addr.add_zero'] at hx276_2)
            (try rw [show ((0 : Int)).toNat = 0 from rfl] at hx276_3)
            (try rw [show 0 * 4 = 0 from rfl] at hx276_3)
            (try rw [Addr.add_zero'] at hx276_3)
            replace p276 := eq_true p276; replace q276 := eq_true q276; have p277 : 0 ≤ (0 : Int) := (by omega); have q277 : 0 < (y254.length : Int) := of_decide_eq_true (by first | (with_reducible assumption) | assumption)
            obtain ⟨ad277, e277, hx277_0, hx277_1, hx277_2, hx277_3⟩ := at_T60 (Kd.R_reads' HO256.out).2.2 0 p277 q277; cases e277; have qi277 : (0 < y254.length) = True := eq_true (by omega)
            (try rw [show ((0 : Int)).toNat = 0 from rfl] at hx277_0)
            (try rw [show 0 * 4 = 0 from rfl] at hx277_0)
            (try rw [Addr.add_zero'] at hx277_0)
            (try rw [show ((0 : Int)).toNat = 0 from rfl] at hx277_1)
            (try rw [show 0 * 4 = 0 from rfl] at hx277_1)
            (try rw [Addr.add_zero'] at hx277_1)
            (try rw [show ((0 : Int)).toNat = 0 from rfl] at hx277_2)
            (try rw [show 0 * 4 = 0 from rfl] at hx277_2)
            (try rw [Addr.add_zero'] at hx277_2)
            (try rw [show ((0 : Int)).toNat = 0 from rfl] at hx277_3)
            (try rw [show 0 * 4 = 0 from rfl] at hx277_3)
            (try rw [Addr.add_zero'] at hx277_3)
            replace p277 := eq_true p277; replace q277 := eq_true q277; refine start_ (n := 47) (S := fun w' => w'.cell? ⟨gb267, 0, none⟩ = some (.int .i64 t260) ∧ w'.cell? ⟨gb267, 1, none⟩ = some (.slice (some ad276) t261.length co30) ∧ w'.cell? ⟨gb267, 2, none⟩ = some (.int .u64 t264) ∧ w'.cell? ⟨gb257, 0, none⟩ = some (.int .i64 1) ∧ w'.cell? ⟨gb257, 1, none⟩ = some (.slice (some ad277) y254.length co20) ∧ w'.cell? ⟨gb257, 2, none⟩ = some (.int .u64 0) ∧ w'.cell? ad276 = some (.string ((rd_T60 t261 0).f0)) ∧ w'.cell? ⟨ad276.block, ad276.off + 1, none⟩ = some (.int .u32 ((rd_T60 t261 0).f1)) ∧ w'.cell? ⟨ad276.block, ad276.off + 2, none⟩ = some (.string ((rd_T60 t261 0).f2)) ∧ w'.cell? ⟨ad276.block, ad276.off + 3, none⟩ = some (.int .u64 ((rd_T60 t261 0).f3)) ∧ w'.cell? ad277 = some (.string ((rd_T60 y254 0).f0)) ∧ w'.cell? ⟨ad277.block, ad277.off + 1, none⟩ = some (.int .u32 ((rd_T60 y254 0).f1)) ∧ w'.cell? ⟨ad277.block, ad277.off + 2, none⟩ = some (.string ((rd_T60 y254 0).f2)) ∧ w'.cell? ⟨ad277.block, ad277.off + 3, none⟩ = some (.int .u64 ((rd_T60 y254 0).f3))) (ds := []) #[false, false, false, false, false, false, false, false, false, false, false, false, false, false, false, false, false, false, false, false, false, false, false, false, false, false, false, false, false, false, false, false, false, false, false, false, false, false, false, false, false, false, false, false, false, false, false] (by kernel_rfl) rfl rfl ⟨kC BK267 0, kC BK267 1, kC BK267 2, kC BK257 0, kC BK257 1, kC BK257 2, hx276_0, hx276_1, hx276_2, hx276_3, hx277_0, hx277_1, hx277_2, hx277_3⟩ (fun hHeld => ?_); refine with_tabW tallboylaw18_works.tab6 tallboylaw18_works.bits6 (fun HT_ HW_ => ?_)
            generalize w37.drew = w38 at HO256 HO263 HO271 BK257 BK267 BK275 HB hx276_0 hx276_1 hx276_2 hx276_3 hx277_0 hx277_1 hx277_2 hx277_3 hHeld ⊢; refine pU HT_ 0 (some 29) ?_ #[true, false, false, false, false, false, false, false, false, false, false, false, false, false, false, false, false, false, false, false, false, false, false, false, false, false, false, false, false, false, false, false, false, false, false, false, false, false, false, false, false, false, false, false, false, false, false] rfl rfl ?_ ?_ ?_ ?_
            rotate_left
            ·intro w'
             go_simp
             with_reducible rfl
            rotate_left
            ·simp only [Act.put, sA, sB, sC, i64_w, i32_w]
             rfl
            refine pU HT_ 1 (some 30) ?_ #[true, true, false, false, false, false, false, false, false, false, false, false, false, false, false, false, false, false, false, false, false, false, false, false, false, false, false, false, false, false, false, false, false, false, false, false, false, false, false, false, false, false, false, false, false, false, false] rfl rfl ?_ ?_ ?_ ?_
            rotate_left
            ·intro w'
             go_simp
             with_reducible rfl
            rotate_left
            ·simp only [Act.put, sA, sB, sC, i64_w, i32_w]
             rfl
            refine pU HT_ 2 (some 31) ?_ #[true, true, true, false, false, false, false, false, false, false, false, false, false, false, false, false, false, false, false, false, false, false, false, false, false, false, false, false, false, false, false, false, false, false, false, false, false, false, false, false, false, false, false, false, false, false, false] rfl rfl ?_ ?_ ?_ ?_
            rotate_left
            ·intro w'
             go_simp
             with_reducible rfl
            rotate_left
            ·simp only [Act.put, sA, sB, sC, i64_w, i32_w]
             rfl
            refine pU HT_ 3 (some 32) ?_ #[true, true, true, true, false, false, false, false, false, false, false, false, false, false, false, false, false, false, false, false, false, false, false, false, false, false, false, false, false, false, false, false, false, false, false, false, false, false, false, false, false, false, false, false, false, false, false] rfl rfl ?_ ?_ ?_ ?_
            rotate_left
            ·intro w'
             go_simp
             with_reducible rfl
            rotate_left
            ·simp only [Act.put, sA, sB, sC, i64_w, i32_w]
             rfl
            refine pU HT_ 4 (some 33) ?_ #[true, true, true, true, true, false, false, false, false, false, false, false, false, false, false, false, false, false, false, false, false, false, false, false, false, false, false, false, false, false, false, false, false, false, false, false, false, false, false, false, false, false, false, false, false, false, false] rfl rfl ?_ ?_ ?_ ?_
            rotate_left
            ·intro w'
             go_simp
             with_reducible rfl
            rotate_left
            ·simp only [Act.put, sA, sB, sC, i64_w, i32_w]
             rfl
            refine pU HT_ 5 (some 34) ?_ #[true, true, true, true, true, true, false, false, false, false, false, false, false, false, false, false, false, false, false, false, false, false, false, false, false, false, false, false, false, false, false, false, false, false, false, false, false, false, false, false, false, false, false, false, false, false, false] rfl rfl ?_ ?_ ?_ ?_
            rotate_left
            ·intro w'
             go_simp
             with_reducible rfl
            rotate_left
            ·simp only [Act.put, sA, sB, sC, i64_w, i32_w]
             rfl
            refine pU HT_ 6 (some 35) ?_ #[true, true, true, true, true, true, true, false, false, false, false, false, false, false, false, false, false, false, false, false, false, false, false, false, false, false, false, false, false, false, false, false, false, false, false, false, false, false, false, false, false, false, false, false, false, false, false] rfl rfl ?_ ?_ ?_ ?_
            rotate_left
            ·intro w'
             go_simp
             with_reducible rfl
            rotate_left
            ·simp only [Act.put, sA, sB, sC, i64_w, i32_w]
             rfl
            refine pU HT_ 7 (some 36) ?_ #[true, true, true, true, true, true, true, true, false, false, false, false, false, false, false, false, false, false, false, false, false, false, false, false, false, false, false, false, false, false, false, false, false, false, false, false, false, false, false, false, false, false, false, false, false, false, false] rfl rfl ?_ ?_ ?_ ?_
            rotate_left
            ·intro w'
             go_simp
             with_reducible rfl
            rotate_left
            ·simp only [Act.put, sA, sB, sC, i64_w, i32_w]
             rfl
            refine pU HT_ 8 (some 37) ?_ #[true, true, true, true, true, true, true, true, true, false, false, false, false, false, false, false, false, false, false, false, false, false, false, false, false, false, false, false, false, false, false, false, false, false, false, false, false, false, false, false, false, false, false, false, false, false, false] rfl rfl ?_ ?_ ?_ ?_
            rotate_left
            ·intro w'
             go_simp
             with_reducible rfl
            rotate_left
            ·simp only [Act.put, sA, sB, sC, i64_w, i32_w]
             rfl
            refine pU HT_ 9 (some 38) ?_ #[true, true, true, true, true, true, true, true, true, true, false, false, false, false, false, false, false, false, false, false, false, false, false, false, false, false, false, false, false, false, false, false, false, false, false, false, false, false, false, false, false, false, false, false, false, false, false] rfl rfl ?_ ?_ ?_ ?_
            rotate_left
            ·intro w'
             go_simp
             with_reducible rfl
            rotate_left
            ·simp only [Act.put, sA, sB, sC, i64_w, i32_w]
             rfl
            refine pU HT_ 10 (some 39) ?_ #[true, true, true, true, true, true, true, true, true, true, true, false, false, false, false, false, false, false, false, false, false, false, false, false, false, false, false, false, false, false, false, false, false, false, false, false, false, false, false, false, false, false, false, false, false, false, false] rfl rfl ?_ ?_ ?_ ?_
            rotate_left
            ·intro w'
             go_simp
             with_reducible rfl
            rotate_left
            ·simp only [Act.put, sA, sB, sC, i64_w, i32_w]
             rfl
            refine pU HT_ 11 (some 40) ?_ #[true, true, true, true, true, true, true, true, true, true, true, true, false, false, false, false, false, false, false, false, false, false, false, false, false, false, false, false, false, false, false, false, false, false, false, false, false, false, false, false, false, false, false, false, false, false, false] rfl rfl ?_ ?_ ?_ ?_
            rotate_left
            ·intro w'
             go_simp
             with_reducible rfl
            rotate_left
            ·simp only [Act.put, sA, sB, sC, i64_w, i32_w]
             rfl
            refine pU HT_ 12 (some 41) ?_ #[true, true, true, true, true, true, true, true, true, true, true, true, true, false, false, false, false, false, false, false, false, false, false, false, false, false, false, false, false, false, false, false, false, false, false, false, false, false, false, false, false, false, false, false, false, false, false] rfl rfl ?_ ?_ ?_ ?_
            rotate_left
            ·intro w'
             go_simp
             with_reducible rfl
            rotate_left
            ·simp only [Act.put, sA, sB, sC, i64_w, i32_w]
             rfl
            refine pU HT_ 13 (some 42) ?_ #[true, true, true, true, true, true, true, true, true, true, true, true, true, true, false, false, false, false, false, false, false, false, false, false, false, false, false, false, false, false, false, false, false, false, false, false, false, false, false, false, false, false, false, false, false, false, false] rfl rfl ?_ ?_ ?_ ?_
            rotate_left
            ·intro w'
             go_simp
             with_reducible rfl
            rotate_left
            ·simp only [Act.put, sA, sB, sC, i64_w, i32_w]
             rfl
            refine pU HT_ 14 (some 43) ?_ #[true, true, true, true, true, true, true, true, true, true, true, true, true, true, true, false, false, false, false, false, false, false, false, false, false, false, false, false, false, false, false, false, false, false, false, false, false, false, false, false, false, false, false, false, false, false, false] rfl rfl ?_ ?_ ?_ ?_
            rotate_left
            ·intro w'
             go_simp
             with_reducible rfl
            rotate_left
            ·simp only [Act.put, sA, sB, sC, i64_w, i32_w]
             rfl
            refine pU HT_ 15 (some 44) ?_ #[true, true, true, true, true, true, true, true, true, true, true, true, true, true, true, true, false, false, false, false, false, false, false, false, false, false, false, false, false, false, false, false, false, false, false, false, false, false, false, false, false, false, false, false, false, false, false] rfl rfl ?_ ?_ ?_ ?_
            rotate_left
            ·intro w'
             go_simp
             with_reducible rfl
            rotate_left
            ·simp only [Act.put, sA, sB, sC, i64_w, i32_w]
             rfl
            refine pU HT_ 16 (some 45) ?_ #[true, true, true, true, true, true, true, true, true, true, true, true, true, true, true, true, true, false, false, false, false, false, false, false, false, false, false, false, false, false, false, false, false, false, false, false, false, false, false, false, false, false, false, false, false, false, false] rfl rfl ?_ ?_ ?_ ?_
            rotate_left
            ·intro w'
             go_simp
             with_reducible rfl
            rotate_left
            ·simp only [Act.put, sA, sB, sC, i64_w, i32_w]
             rfl
            refine pU HT_ 17 (some 46) ?_ #[true, true, true, true, true, true, true, true, true, true, true, true, true, true, true, true, true, true, false, false, false, false, false, false, false, false, false, false, false, false, false, false, false, false, false, false, false, false, false, false, false, false, false, false, false, false, false] rfl rfl ?_ ?_ ?_ ?_
            rotate_left
            ·intro w'
             go_simp
             with_reducible rfl
            rotate_left
            ·simp only [Act.put, sA, sB, sC, i64_w, i32_w]
             rfl
            refine tU HT_ HW_ hHeld 18 (some 47) ?_ #[true, true, true, true, true, true, true, true, true, true, true, true, true, true, true, true, true, true, true, false, false, false, false, false, false, false, false, false, false, false, false, false, false, false, false, false, false, false, false, false, false, false, false, false, false, false, false] rfl rfl ?_ ?_ ?_ ?_
            rotate_left
            ·rintro w' ⟨s0, s1, s2, s3, s4, s5, s6, s7, s8, s9, s10, s11, s12, s13⟩
             go_simp
             with_reducible rfl
            rotate_left
            ·simp only [Act.put, sA, sB, sC, i64_w, i32_w]
             rfl
            refine pU HT_ 19 (some 48) ?_ #[true, true, true, true, true, true, true, true, true, true, true, true, true, true, true, true, true, true, true, true, false, false, false, false, false, false, false, false, false, false, false, false, false, false, false, false, false, false, false, false, false, false, false, false, false, false, false] rfl rfl ?_ ?_ ?_ ?_
            rotate_left
            ·intro w'
             go_simp
             with_reducible rfl
            rotate_left
            ·simp only [Act.put, sA, sB, sC, i64_w, i32_w]
             rfl
            refine pU HT_ 20 (some 49) ?_ #[true, true, true, true, true, true, true, true, true, true, true, true, true, true, true, true, true, true, true, true, true, false, false, false, false, false, false, false, false, false, false, false, false, false, false, false, false, false, false, false, false, false, false, false, false, false, false] rfl rfl ?_ ?_ ?_ ?_
            rotate_left
            ·intro w'
             go_simp
             with_reducible rfl
            rotate_left
            ·simp only [Act.put, sA, sB, sC, i64_w, i32_w]
             rfl
            refine pU HT_ 21 (some 50) ?_ #[true, true, true, true, true, true, true, true, true, true, true, true, true, true, true, true, true, true, true, true, true, true, false, false, false, false, false, false, false, false, false, false, false, false, false, false, false, false, false, false, false, false, false, false, false, false, false] rfl rfl ?_ ?_ ?_ ?_
            rotate_left
            ·intro w'
             go_simp
             with_reducible rfl
            rotate_left
            ·simp only [Act.put, sA, sB, sC, i64_w, i32_w]
             rfl
            refine pU HT_ 22 (some 51) ?_ #[true, true, true, true, true, true, true, true, true, true, true, true, true, true, true, true, true, true, true, true, true, true, true, false, false, false, false, false, false, false, false, false, false, false, false, false, false, false, false, false, false, false, false, false, false, false, false] rfl rfl ?_ ?_ ?_ ?_
            rotate_left
            ·intro w'
             go_simp
             with_reducible rfl
            rotate_left
            ·simp only [Act.put, sA, sB, sC, i64_w, i32_w]
             rfl
            refine pU HT_ 23 (some 52) ?_ #[true, true, true, true, true, true, true, true, true, true, true, true, true, true, true, true, true, true, true, true, true, true, true, true, false, false, false, false, false, false, false, false, false, false, false, false, false, false, false, false, false, false, false, false, false, false, false] rfl rfl ?_ ?_ ?_ ?_
            rotate_left
            ·intro w'
             go_simp
             with_reducible rfl
            rotate_left
            ·simp only [Act.put, sA, sB, sC, i64_w, i32_w]
             rfl
            refine pU HT_ 27 (some 56) ?_ #[true, true, true, true, true, true, true, true, true, true, true, true, true, true, true, true, true, true, true, true, true, true, true, true, false, false, false, true, false, false, false, false, false, false, false, false, false, false, false, false, false, false, false, false, false, false, false] rfl rfl ?_ ?_ ?_ ?_
            rotate_left
            ·intro w'
             go_simp
             with_reducible rfl
            rotate_left
            ·simp only [Act.put, sA, sB, sC, i64_w, i32_w]
             rfl
            refine tU HT_ HW_ hHeld 24 (some 53) ?_ #[true, true, true, true, true, true, true, true, true, true, true, true, true, true, true, true, true, true, true, true, true, true, true, true, true, false, false, true, false, false, false, false, false, false, false, false, false, false, false, false, false, false, false, false, false, false, false] rfl rfl ?_ ?_ ?_ ?_
            rotate_left
            ·rintro w' ⟨s0, s1, s2, s3, s4, s5, s6, s7, s8, s9, s10, s11, s12, s13⟩
             go_simp
             with_reducible rfl
            rotate_left
            ·simp only [Act.put, sA, sB, sC, i64_w, i32_w]
             rfl
            refine pU HT_ 25 (some 54) ?_ #[true, true, true, true, true, true, true, true, true, true, true, true, true, true, true, true, true, true, true, true, true, true, true, true, true, true, false, true, false, false, false, false, false, false, false, false, false, false, false, false, false, false, false, false, false, false, false] rfl rfl ?_ ?_ ?_ ?_
            rotate_left
            ·intro w'
             go_simp
             with_reducible rfl
            rotate_left
            ·simp only [Act.put, sA, sB, sC, i64_w, i32_w]
             rfl
            refine tU HT_ HW_ hHeld 26 (some 55) ?_ #[true, true, true, true, true, true, true, true, true, true, true, true, true, true, true, true, true, true, true, true, true, true, true, true, true, true, true, true, false, false, false, false, false, false, false, false, false, false, false, false, false, false, false, false, false, false, false] rfl rfl ?_ ?_ ?_ ?_
            rotate_left
            ·rintro w' ⟨s0, s1, s2, s3, s4, s5, s6, s7, s8, s9, s10, s11, s12, s13⟩
             go_simp
             with_reducible rfl
            rotate_left
            ·simp only [Act.put, sA, sB, sC, i64_w, i32_w]
             rfl
            refine tU HT_ HW_ hHeld 28 (some 57) ?_ #[true, true, true, true, true, true, true, true, true, true, true, true, true, true, true, true, true, true, true, true, true, true, true, true, true, true, true, true, true, false, false, false, false, false, false, false, false, false, false, false, false, false, false, false, false, false, false] rfl rfl ?_ ?_ ?_ ?_
            rotate_left
            ·rintro w' ⟨s0, s1, s2, s3, s4, s5, s6, s7, s8, s9, s10, s11, s12, s13⟩
             go_simp
             with_reducible rfl
            rotate_left
            ·simp only [Act.put, sA, sB, sC, i64_w, i32_w]
             rfl
            refine pU HT_ 29 (some 58) ?_ #[true, true, true, true, true, true, true, true, true, true, true, true, true, true, true, true, true, true, true, true, true, true, true, true, true, true, true, true, true, true, false, false, false, false, false, false, false, false, false, false, false, false, false, false, false, false, false] rfl rfl ?_ ?_ ?_ ?_
            rotate_left
            ·intro w'
             go_simp
             with_reducible rfl
            rotate_left
            ·simp only [Act.put, sA, sB, sC, i64_w, i32_w]
             rfl
            refine tU HT_ HW_ hHeld 30 (some 59) ?_ #[true, true, true, true, true, true, true, true, true, true, true, true, true, true, true, true, true, true, true, true, true, true, true, true, true, true, true, true, true, true, true, false, false, false, false, false, false, false, false, false, false, false, false, false, false, false, false] rfl rfl ?_ ?_ ?_ ?_
            rotate_left
            ·rintro w' ⟨s0, s1, s2, s3, s4, s5, s6, s7, s8, s9, s10, s11, s12, s13⟩
             go_simp
             with_reducible rfl
            rotate_left
            ·simp only [Act.put, sA, sB, sC, i64_w, i32_w]
             rfl
            refine pU HT_ 31 (some 60) ?_ #[true, true, true, true, true, true, true, true, true, true, true, true, true, true, true, true, true, true, true, true, true, true, true, true, true, true, true, true, true, true, true, true, false, false, false, false, false, false, false, false, false, false, false, false, false, false, false] rfl rfl ?_ ?_ ?_ ?_
            rotate_left
            ·intro w'
             go_simp
             with_reducible rfl
            rotate_left
            ·simp only [Act.put, sA, sB, sC, i64_w, i32_w]
             rfl
            refine pU HT_ 32 (some 61) ?_ #[true, true, true, true, true, true, true, true, true, true, true, true, true, true, true, true, true, true, true, true, true, true, true, true, true, true, true, true, true, true, true, true, true, false, false, false, false, false, false, false, false, false, false, false, false, false, false] rfl rfl ?_ ?_ ?_ ?_
            rotate_left
            ·intro w'
             go_simp
             with_reducible rfl
            rotate_left
            ·simp only [Act.put, sA, sB, sC, i64_w, i32_w]
             rfl
            refine pU HT_ 33 (some 62) ?_ #[true, true, true, true, true, true, true, true, true, true, true, true, true, true, true, true, true, true, true, true, true, true, true, true, true, true, true, true, true, true, true, true, true, true, false, false, false, false, false, false, false, false, false, false, false, false, false] rfl rfl ?_ ?_ ?_ ?_
            rotate_left
            ·intro w'
             go_simp
             with_reducible rfl
            rotate_left
            ·simp only [Act.put, sA, sB, sC, i64_w, i32_w]
             rfl
            refine pU HT_ 34 (some 63) ?_ #[true, true, true, true, true, true, true, true, true, true, true, true, true, true, true, true, true, true, true, true, true, true, true, true, true, true, true, true, true, true, true, true, true, true, true, false, false, false, false, false, false, false, false, false, false, false, false] rfl rfl ?_ ?_ ?_ ?_
            rotate_left
            ·intro w'
             go_simp
             with_reducible rfl
            rotate_left
            ·simp only [Act.put, sA, sB, sC, i64_w, i32_w]
             rfl
            refine pU HT_ 35 (some 64) ?_ #[true, true, true, true, true, true, true, true, true, true, true, true, true, true, true, true, true, true, true, true, true, true, true, true, true, true, true, true, true, true, true, true, true, true, true, true, false, false, false, false, false, false, false, false, false, false, false] rfl rfl ?_ ?_ ?_ ?_
            rotate_left
            ·intro w'
             go_simp
             with_reducible rfl
            rotate_left
            ·simp only [Act.put, sA, sB, sC, i64_w, i32_w]
             rfl
            refine pU HT_ 36 (some 65) ?_ #[true, true, true, true, true, true, true, true, true, true, true, true, true, true, true, true, true, true, true, true, true, true, true, true, true, true, true, true, true, true, true, true, true, true, true, true, true, false, false, false, false, false, false, false, false, false, false] rfl rfl ?_ ?_ ?_ ?_
            rotate_left
            ·intro w'
             go_simp
             with_reducible rfl
            rotate_left
            ·simp only [Act.put, sA, sB, sC, i64_w, i32_w]
             rfl
            refine pU HT_ 37 (some 66) ?_ #[true, true, true, true, true, true, true, true, true, true, true, true, true, true, true, true, true, true, true, true, true, true, true, true, true, true, true, true, true, true, true, true, true, true, true, true, true, true, false, false, false, false, false, false, false, false, false] rfl rfl ?_ ?_ ?_ ?_
            rotate_left
            ·intro w'
             go_simp
             with_reducible rfl
            rotate_left
            ·simp only [Act.put, sA, sB, sC, i64_w, i32_w]
             rfl
            refine one_ (i := 38) (N := some 67) #[true, true, true, true, true, true, true, true, true, true, true, true, true, true, true, true, true, true, true, true, true, true, true, true, true, true, true, true, true, true, true, true, true, true, true, true, true, true, true, false, false, false, false, false, false, false, false] rfl rfl (one_of HT_.out (by kernel_rfl)) (by decide) (fun K hK => ?_)
            refine goes_ Tryd.func12 (by kernel_rfl) rfl #[.int .i64 3] (by rfl) rfl rfl (by (try simp only [List.map_toArray, List.map_cons, List.map_nil]); first | done | rfl | (simp only [List.length_drop, List.length_take]; rfl)) ?_
            with_reducible refine (reply_Complaint.calls 3 t278 _ A15.out).mono ?_
            rintro e w' ⟨rfl, ⟨nd, rfl⟩⟩
            refine ⟨_, rfl, ?_⟩
            refine hK.out _ _ ⟨kC BK267 0, kC BK267 1, kC BK267 2, kC BK257 0, kC BK257 1, kC BK257 2, hHeld.2.2.2.2.2.2.1, hHeld.2.2.2.2.2.2.2.1, hHeld.2.2.2.2.2.2.2.2.1, hHeld.2.2.2.2.2.2.2.2.2.1, hHeld.2.2.2.2.2.2.2.2.2.2.1, hHeld.2.2.2.2.2.2.2.2.2.2.2.1, hHeld.2.2.2.2.2.2.2.2.2.2.2.2.1, hHeld.2.2.2.2.2.2.2.2.2.2.2.2.2⟩ (fun hHeld => ?_)
            clear hK K; refine norm_ (a' := ?_) ?_ ?_
            rotate_left
            ·show Act.put _ (some 67) _ = _
             simp only [Act.put, sA, sB, sC, i64_w, i32_w]
             rfl
            refine pU HT_ 39 (some 68) ?_ #[true, true, true, true, true, true, true, true, true, true, true, true, true, true, true, true, true, true, true, true, true, true, true, true, true, true, true, true, true, true, true, true, true, true, true, true, true, true, true, true, false, false, false, false, false, false, false] rfl rfl ?_ ?_ ?_ ?_
            rotate_left
            ·intro w'
             go_simp
             with_reducible rfl
            rotate_left
            ·simp only [Act.put, sA, sB, sC, i64_w, i32_w]
             rfl
            refine pU HT_ 40 (some 69) ?_ #[true, true, true, true, true, true, true, true, true, true, true, true, true, true, true, true, true, true, true, true, true, true, true, true, true, true, true, true, true, true, true, true, true, true, true, true, true, true, true, true, true, false, false, false, false, false, false] rfl rfl ?_ ?_ ?_ ?_
            rotate_left
            ·intro w'
             go_simp
             with_reducible rfl
            rotate_left
            ·simp only [Act.put, sA, sB, sC, i64_w, i32_w]
             rfl
            refine pU HT_ 41 (some 70) ?_ #[true, true, true, true, true, true, true, true, true, true, true, true, true, true, true, true, true, true, true, true, true, true, true, true, true, true, true, true, true, true, true, true, true, true, true, true, true, true, true, true, true, true, false, false, false, false, false] rfl rfl ?_ ?_ ?_ ?_
            rotate_left
            ·intro w'
             go_simp
             with_reducible rfl
            rotate_left
            ·simp only [Act.put, sA, sB, sC, i64_w, i32_w]
             rfl
            refine pU HT_ 42 (some 71) ?_ #[true, true, true, true, true, true, true, true, true, true, true, true, true, true, true, true, true, true, true, true, true, true, true, true, true, true, true, true, true, true, true, true, true, true, true, true, true, true, true, true, true, true, true, false, false, false, false] rfl rfl ?_ ?_ ?_ ?_
            rotate_left
            ·intro w'
             go_simp
             with_reducible rfl
            rotate_left
            ·simp only [Act.put, sA, sB, sC, i64_w, i32_w]
             rfl
            refine one_ (i := 43) (N := some 72) #[true, true, true, true, true, true, true, true, true, true, true, true, true, true, true, true, true, true, true, true, true, true, true, true, true, true, true, true, true, true, true, true, true, true, true, true, true, true, true, true, true, true, true, true, false, false, false] rfl rfl (one_of HT_.out (by kernel_rfl)) (by decide) (fun K hK => ?_)
            refine goes_ Tryd.func9 (by kernel_rfl) rfl #[.int .i64 12, .agg #[.int .i64 7, .slice none 0 0, .int .u64 7]] (by rfl) rfl rfl (by (try simp only [List.map_toArray, List.map_cons, List.map_nil]); first | done | rfl | (simp only [List.length_drop, List.length_take]; rfl)) ?_
            refine (reply_Text.calls 12 7 _ _ ([] : List (S60)) 7 t279 _ ?side1 ?side2 A17.out (by first | exact (LdS.t (LdU.s HL.out)) | exact LdT.on (LdS.t (LdU.s HL.out)) (bH HB.out))).mono ?_
            (case side1 => exact Kd.C_nil _ _)
            (case side2 => exact Nat.le_refl _)
            rintro e w39 ⟨rfl, hb⟩
            have HS6_ := (hb.cell (World.block_lt_of_cell? _ _ (hHeld.2.2.2.2.2.2.1))).trans (hHeld.2.2.2.2.2.2.1); have HS7_ := (hb.cell (World.block_lt_of_cell? _ _ (hHeld.2.2.2.2.2.2.2.1))).trans (hHeld.2.2.2.2.2.2.2.1); have HS8_ := (hb.cell (World.block_lt_of_cell? _ _ (hHeld.2.2.2.2.2.2.2.2.1))).trans (hHeld.2.2.2.2.2.2.2.2.1); have HS9_ := (hb.cell (World.block_lt_of_cell? _ _ (hHeld.2.2.2.2.2.2.2.2.2.1))).trans (hHeld.2.2.2.2.2.2.2.2.2.1); have HS10_ := (hb.cell (World.block_lt_of_cell? _ _ (hHeld.2.2.2.2.2.2.2.2.2.2.1))).trans (hHeld.2.2.2.2.2.2.2.2.2.2.1); have HS11_ := (hb.cell (World.block_lt_of_cell? _ _ (hHeld.2.2.2.2.2.2.2.2.2.2.2.1))).trans (hHeld.2.2.2.2.2.2.2.2.2.2.2.1); have HS12_ := (hb.cell (World.block_lt_of_cell? _ _ (hHeld.2.2.2.2.2.2.2.2.2.2.2.2.1))).trans (hHeld.2.2.2.2.2.2.2.2.2.2.2.2.1); have HS13_ := (hb.cell (World.block_lt_of_cell? _ _ (hHeld.2.2.2.2.2.2.2.2.2.2.2.2.2))).trans (hHeld.2.2.2.2.2.2.2.2.2.2.2.2.2); refine ⟨_, rfl, ?_⟩
            replace HO256 := Aside0.mk (Kd.R_below (by (with_reducible repeat (first | apply Kd.R_alloc | apply Kd.R_drewN | apply Kd.R_drew)); exact HO256.out) hb); replace HO263 := Aside0.mk (Kd.R_below (by (with_reducible repeat (first | apply Kd.R_alloc | apply Kd.R_drewN | apply Kd.R_drew)); exact HO263.out) hb); replace HO271 := Aside0.mk (Kd.R_below (by (with_reducible repeat (first | apply Kd.R_alloc | apply Kd.R_drewN | apply Kd.R_drew)); exact HO271.out) hb); replace BK257 := rB BK257 hb; replace BK267 := rB BK267 hb; replace BK275 := rB BK275 hb; replace HB := rS HB hb
            (try clear hb)
            
            (try clear hk)
            
            refine hK.out _ _ ⟨kC BK267 0, kC BK267 1, kC BK267 2, kC BK257 0, kC BK257 1, kC BK257 2, HS6_, HS7_, HS8_, HS9_, HS10_, HS11_, HS12_, HS13_⟩ (fun hHeld => ?_)
            clear hK K; refine norm_ (a' := ?_) ?_ ?_
            rotate_left
            ·show Act.put _ (some 72) _ = _
             simp only [Act.put, sA, sB, sC, i64_w, i32_w]
             rfl
            refine pU HT_ 44 (some 73) ?_ #[true, true, true, true, true, true, true, true, true, true, true, true, true, true, true, true, true, true, true, true, true, true, true, true, true, true, true, true, true, true, true, true, true, true, true, true, true, true, true, true, true, true, true, true, true, false, false] rfl rfl ?_ ?_ ?_ ?_
            rotate_left
            ·intro w'
             go_simp
             with_reducible rfl
            rotate_left
            ·simp only [Act.put, sA, sB, sC, i64_w, i32_w]
             rfl
            refine pU HT_ 45 (some 74) ?_ #[true, true, true, true, true, true, true, true, true, true, true, true, true, true, true, true, true, true, true, true, true, true, true, true, true, true, true, true, true, true, true, true, true, true, true, true, true, true, true, true, true, true, true, true, true, true, false] rfl rfl ?_ ?_ ?_ ?_
            rotate_left
            ·intro w'
             go_simp
             with_reducible rfl
            rotate_left
            ·simp only [Act.put, sA, sB, sC, i64_w, i32_w]
             rfl
            refine pU HT_ 46 (some 0) ?_ #[true, true, true, true, true, true, true, true, true, true, true, true, true, true, true, true, true, true, true, true, true, true, true, true, true, true, true, true, true, true, true, true, true, true, true, true, true, true, true, true, true, true, true, true, true, true, true] rfl rfl ?_ ?_ ?_ ?_
            rotate_left
            ·intro w'
             go_simp
             with_reducible rfl
            rotate_left
            ·simp only [Act.put, sA, sB, sC, i64_w, i32_w]
             rfl
            refine done_ (done_of HT_.out (by kernel_rfl)) ?_
            try go_wp2
            go_ret
            exact ⟨xR, bH HB.out⟩
           ·rw [if_neg c16] at H; have c16b0 : (t278.toList == ([69, 82, 82, 79, 82, 13, 10] : List UInt8)) = false := beq_eq_false_iff_ne.mpr c16; have c16b1 : (t278.toList != ([69, 82, 82, 79, 82, 13, 10] : List UInt8)) = true := bne_iff_ne.mpr c16; exact absurd H (by simp)
          ·rw [if_neg c14] at H; have c14b0 : (t274 == 6) = false := beq_eq_false_iff_ne.mpr c14; have c14b1 : (t274 != 6) = true := bne_iff_ne.mpr c14; exact absurd H (by simp)
         ·rw [if_neg c13] at H; have c13b0 : ((((rd_T60 t261 0).f0).toList) == (((rd_T60 y254 0).f0).toList) && (((rd_T60 t261 0).f1) == ((rd_T60 y254 0).f1) && ((((rd_T60 t261 0).f2).toList) == (((rd_T60 y254 0).f2).toList) && (((rd_T60 t261 0).f3) == ((rd_T60 y254 0).f3))))) = false := by simpa using c13
          (try (have c13b1 : decide ((((rd_T60 t261 0).f0).toList) = (((rd_T60 y254 0).f0).toList) && (((rd_T60 t261 0).f1) == ((rd_T60 y254 0).f1) && ((((rd_T60 t261 0).f2).toList) == (((rd_T60 y254 0).f2).toList) && (((rd_T60 t261 0).f3) == ((rd_T60 y254 0).f3))))) = false := by simpa using c13))
          (try (have c13b2 : ((((rd_T60 t261 0).f0).toList) == (((rd_T60 y254 0).f0).toList) && (((rd_T60 t261 0).f1) == ((rd_T60 y254 0).f1) && ((((rd_T60 t261 0).f2).toList) == (((rd_T60 y254 0).f2).toList) && (((rd_T60 t261 0).f3) == ((rd_T60 y254 0).f3))))) = false := by simpa using c13))
          (try (have c13b3 : ¬ ((((rd_T60 t261 0).f0).toList) = (((rd_T60 y254 0).f0).toList) && (((rd_T60 t261 0).f1) == ((rd_T60 y254 0).f1) && ((((rd_T60 t261 0).f2).toList) == (((rd_T60 y254 0).f2).toList) && (((rd_T60 t261 0).f3) == ((rd_T60 y254 0).f3))))) := by simpa using c13))
          clear c13; exact absurd H (by simp)
        ·rw [if_neg c12] at H; exact absurd H (by simp)
       ·rw [if_neg c11] at H; exact absurd H (by simp)
      ·rw [if_neg c10] at H; have c10b0 : ((t261.length : Int) == 1) = false := beq_eq_false_iff_ne.mpr c10; have c10b1 : ((t261.length : Int) != 1) = true := bne_iff_ne.mpr c10; exact absurd H (by simp)
     ·rw [if_neg c9] at H; have c9b0 : (t266 == 0) = false := beq_eq_false_iff_ne.mpr c9; have c9b1 : (t266 != 0) = true := bne_iff_ne.mpr c9; exact absurd H (by simp)
    ·rw [if_neg c8] at H; have c8b0 : (t265 == (t259.size : Int)) = false := beq_eq_false_iff_ne.mpr c8; have c8b1 : (t265 != (t259.size : Int)) = true := bne_iff_ne.mpr c8; exact absurd H (by simp)
   ·rw [if_neg c7] at H; have c7b0 : (t259.toList == ([86, 65, 76, 85, 69, 32, 107, 32, 53, 32, 51, 32, 57, 13, 10, 97, 98, 99, 13, 10, 69, 78, 68, 13, 10] : List UInt8)) = false := beq_eq_false_iff_ne.mpr c7; have c7b1 : (t259.toList != ([86, 65, 76, 85, 69, 32, 107, 32, 53, 32, 51, 32, 57, 13, 10, 97, 98, 99, 13, 10, 69, 78, 68, 13, 10] : List UInt8)) = true := bne_iff_ne.mpr c7; exact absurd H (by simp)
  ·rw [if_neg c6] at H; have c6b0 : (t258.toList == ([86, 65, 76, 85, 69, 32, 107, 32, 53, 32, 51, 13, 10, 97, 98, 99, 13, 10, 69, 78, 68, 13, 10] : List UInt8)) = false := beq_eq_false_iff_ne.mpr c6; have c6b1 : (t258.toList != ([86, 65, 76, 85, 69, 32, 107, 32, 53, 32, 51, 13, 10, 97, 98, 99, 13, 10, 69, 78, 68, 13, 10] : List UInt8)) = true := bne_iff_ne.mpr c6; exact absurd H (by simp)
 ·rw [if_neg c3] at H; exact absurd H (by simp)

end Go.Proofs.YtdgpagocccabdaaDoor.P
