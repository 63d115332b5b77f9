/- Lean functions for the Go functions that the laws of this seat use, and the proofs that the Go code computes them; conditions: the readings that each theorem names. Written by a program. -/
import Derived.Test.YtdepkgikdmlgiaaPx0
import Derived.Test.YtdepkgikdmlgiaaPx9
import Derived.Test.YtdepkgikdmlgiaaShort
namespace Go.Proofs.Ytdepkgikdmlgiaa.P
open Go.RowKit Go.Proofs.YtdepkgikdmlgiaaW.PrintWords Go.Proofs.YtdepkgikdmlgiaaW.PrintLast Go.Proofs.YtdepkgikdmlgiaaW.PrintMore
set_option linter.unusedVariables false
set_option linter.unusedSimpArgs false

/-! ### tallboyref29_Unpack: function 16 -/
set_option maxHeartbeats 8000000 in
set_option maxRecDepth 100000 in
theorem tallboyref29_Unpack.calls (k : Nat) (a0 : ByteArray) (r1 : Bool) (r2 : Int) (r3 : Int) (r4 : Int) (r5 : Int) (r6 : ByteArray) (r7 : ByteArray) (r8 : ByteArray) (r9 : Int) (r10 : Int) (w : World) (h : tallboyref29_Unpack.f k a0 = some (r1, r2, r3, r4, r5, r6, r7, r8, r9, r10)) :
  Calls Try.prog 16 #[.string a0] w fun e w' => e = .returned (.tuple #[.agg #[.bool r1, .int .u8 r2, .int .u16 r3, .int .u32 r4, .int .u64 r5, .string r6, .string r7, .string r8], .int .i64 r9, .int .i64 r10]) ∧ Below w.heap.size w w' := by
 have hu26 := Try.underlying26; have HB := Aside0.mk (Below.refl w.heap.size w); have H : (if (a0.size : Int) > 0 then (if 0 < (a0.size : Int) then (if (bt a0 0) = 128 then (tallboyref29_Unpack.j0 k a0 false) else (tallboyref29_Unpack.j0 k a0 ((bt a0 0) != 129))) else (none)) else (tallboyref29_Unpack.j0 k a0 false)) = some (r1, r2, r3, r4, r5, r6, r7, r8, r9, r10) := h; clear h; have HC2 := Aside0.mk H; clear H; go_enter Try.func16, Try.ntmps16
 go_upto_region 1 with (first | ((with_reducible refine gate_dst (N := 2) rfl ?_); refine bE 2 #[.bool false, .int .u8 0, .int .u16 0, .int .u32 0, .int .u64 0, .string (⟨#[]⟩ : ByteArray), .string (⟨#[]⟩ : ByteArray), .string (⟨#[]⟩ : ByteArray)] 26 rfl rfl ?_; intro gb129 hg w3 hbox hb; have BK129 := rM hbox; have GW129 := rG HB hg; replace HB := rS HB hb; have GE129 := GW129; clear hb hbox hg))
 (try simp only [Act.put, sA, sB, sC])
 go_cut [21] (fun v21 wc => ∃ (kq : Nat) (x21_1 : Bool), v21 = .bool x21_1 ∧ Aside0 (tallboyref29_Unpack.j0 kq a0 x21_1 = some (r1, r2, r3, r4, r5, r6, r7, r8, r9, r10)) ∧ Aside0 (kq ≤ k) ∧ Aside0 (wc.heap[gb129]? = some (.cells #[.bool false, .int .u8 0, .int .u16 0, .int .u32 0, .int .u64 0, .string (⟨#[]⟩ : ByteArray), .string (⟨#[]⟩ : ByteArray), .string (⟨#[]⟩ : ByteArray)] 26 (0, 0))) ∧ Aside0 (Below w.heap.size w wc))
 case first =>
  have H := HC2.out; clear HC2
  by_cases c4 : (a0.size : Int) > 0
  ·rw [if_pos c4] at H; have c4b0 : decide (0 < (a0.size : Int)) = true := decide_eq_true c4; have c4b1 : decide (0 < a0.size) = true := decide_eq_true (by omega); clear c4
   (first | rw [c4b0] | (simp only [i64_w, i32_w]; rw [c4b0]) | skip)
   by_cases c5 : 0 < (a0.size : Int)
   ·rw [if_pos c5] at H; have c5b0 : decide (0 < (a0.size : Int)) = true := decide_eq_true c5; have c5b1 : decide (0 < a0.size) = true := decide_eq_true (by omega); clear c5
    by_cases c7 : (bt a0 0) = 128
    ·rw [if_pos c7] at H; have c7b0 : ((bt a0 0) == 128) = true := beq_iff_eq.mpr c7; have c7b1 : ((bt a0 0) != 128) = false := bne_eq_false_iff_eq.mpr c7; clear c7; have H' := Aside0.mk H; clear H; have p6 : 0 ≤ (0 : Int) := (by omega); have q6 : 0 < a0.size := (by have : (0 : Int) < (a0.size : Int) := of_decide_eq_true (by first | (with_reducible assumption) | assumption); omega)
     have hx6 : ∀ h : 0 < a0.size, ((a0[0]'h).toNat : Int) = bt a0 0 := bt_at a0 0
     clear p6; have qi6 : (0 < (a0.size : Int)) = True := eq_true (of_decide_eq_true (by first | (with_reducible assumption) | assumption)); replace q6 := eq_true q6; go_wp2
     go_meet
     case rel => exact ⟨_, (false), (by first | rfl | (simp; done) | (simp [*]; done)), H', ⟨by first | omega | exact Nat.le_refl _⟩, ⟨bK BK129.out⟩, ⟨bH HB.out⟩⟩
    ·rw [if_neg c7] at H; have c7b0 : ((bt a0 0) == 128) = false := beq_eq_false_iff_ne.mpr c7; have c7b1 : ((bt a0 0) != 128) = true := bne_iff_ne.mpr c7; have H' := Aside0.mk H; clear H; have p6 : 0 ≤ (0 : Int) := (by omega); have q6 : 0 < a0.size := (by have : (0 : Int) < (a0.size : Int) := of_decide_eq_true (by first | (with_reducible assumption) | assumption); omega)
     have hx6 : ∀ h : 0 < a0.size, ((a0[0]'h).toNat : Int) = bt a0 0 := bt_at a0 0
     clear p6; have qi6 : (0 < (a0.size : Int)) = True := eq_true (of_decide_eq_true (by first | (with_reducible assumption) | assumption)); replace q6 := eq_true q6; have p8 : 0 ≤ (0 : Int) := (by omega); have q8 : 0 < a0.size := (by have : (0 : Int) < (a0.size : Int) := of_decide_eq_true (by first | (with_reducible assumption) | assumption); omega)
     have hx8 : ∀ h : 0 < a0.size, ((a0[0]'h).toNat : Int) = bt a0 0 := bt_at a0 0
     clear p8; have qi8 : (0 < (a0.size : Int)) = True := eq_true (of_decide_eq_true (by first | (with_reducible assumption) | assumption)); replace q8 := eq_true q8; go_wp2
     go_meet
     case rel => exact ⟨_, (((bt a0 0) != 129)), (by first | rfl | (simp; done) | (simp [*]; done)), H', ⟨by first | omega | exact Nat.le_refl _⟩, ⟨bK BK129.out⟩, ⟨bH HB.out⟩⟩
   ·rw [if_neg c5] at H; exact absurd H (by simp)
  ·rw [if_neg c4] at H; have c4b0 : decide (0 < (a0.size : Int)) = false := decide_eq_false c4; have c4b1 : decide (0 < a0.size) = false := decide_eq_false (by omega); clear c4
   (first | rw [c4b0] | (simp only [i64_w, i32_w]; rw [c4b0]) | skip)
   have H' := Aside0.mk H; clear H; go_wp2
   go_meet
   case rel => exact ⟨_, (false), (by first | rfl | (simp; done) | (simp [*]; done)), H', ⟨by first | omega | exact Nat.le_refl _⟩, ⟨bK BK129.out⟩, ⟨bH HB.out⟩⟩
 case rest =>
  clear HC2; (try clear c4b0); (try clear c4b1); (try clear c5); (try clear c5b0); (try clear c5b1); (try clear p6); (try clear q6); (try clear hx6); (try clear qi6); (try clear c7); (try clear c7b0); (try clear c7b1); (try clear p8); (try clear q8); (try clear hx8); (try clear qi8); (try clear p6); (try clear p8); (try clear q6); (try clear q8); obtain ⟨kq, x21_1, rfl, HA, HJ1, BK129, HB⟩ := hcut; cases kq with
  | zero => exact absurd HA.out (by simp [tallboyref29_Unpack.j0])
  | succ kj1 =>
   have H := HA.out; clear HA; simp only [tallboyref29_Unpack.j0] at H
   by_cases c9 : x21_1 = true
   ·subst c9; rw [if_pos rfl] at H; simp only [Option.some.injEq, Prod.mk.injEq] at H; obtain ⟨rfl, rfl, rfl, rfl, rfl, rfl, rfl, rfl, rfl, rfl⟩ := H; obtain ⟨hcz10, hfz10⟩ := d8 BK129; go_wp2; refine bodyPost_ret (results_ctt rfl _ _ gb129 26 #[.bool false, .int .u8 0, .int .u16 0, .int .u32 0, .int .u64 0, .string (⟨#[]⟩ : ByteArray), .string (⟨#[]⟩ : ByteArray), .string (⟨#[]⟩ : ByteArray)] (0, 0) _ rfl (by (with_reducible repeat (first | refine bN ?_ _ | refine bD ?_ | refine bA ?_ _)); refine blk_put (cs := #[.bool false, .int .u8 0, .int .u16 0, .int .u32 0, .int .u64 0, .string (⟨#[]⟩ : ByteArray), .string (⟨#[]⟩ : ByteArray), .string (⟨#[]⟩ : ByteArray)]) ?_ 7 _ rfl; (with_reducible repeat (first | refine bN ?_ _ | refine bD ?_ | refine bA ?_ _)); refine blk_put (cs := #[.bool false, .int .u8 0, .int .u16 0, .int .u32 0, .int .u64 0, .string (⟨#[]⟩ : ByteArray), .string (⟨#[]⟩ : ByteArray), .string (⟨#[]⟩ : ByteArray)]) ?_ 6 _ rfl; (with_reducible repeat (first | refine bN ?_ _ | refine bD ?_ | refine bA ?_ _)); refine blk_put (cs := #[.bool false, .int .u8 0, .int .u16 0, .int .u32 0, .int .u64 0, .string (⟨#[]⟩ : ByteArray), .string (⟨#[]⟩ : ByteArray), .string (⟨#[]⟩ : ByteArray)]) ?_ 5 _ rfl; (with_reducible repeat (first | refine bN ?_ _ | refine bD ?_ | refine bA ?_ _)); refine blk_put (cs := #[.bool false, .int .u8 0, .int .u16 0, .int .u32 0, .int .u64 0, .string (⟨#[]⟩ : ByteArray), .string (⟨#[]⟩ : ByteArray), .string (⟨#[]⟩ : ByteArray)]) ?_ 4 _ rfl; (with_reducible repeat (first | refine bN ?_ _ | refine bD ?_ | refine bA ?_ _)); refine blk_put (cs := #[.bool false, .int .u8 0, .int .u16 0, .int .u32 0, .int .u64 0, .string (⟨#[]⟩ : ByteArray), .string (⟨#[]⟩ : ByteArray), .string (⟨#[]⟩ : ByteArray)]) ?_ 3 _ rfl; (with_reducible repeat (first | refine bN ?_ _ | refine bD ?_ | refine bA ?_ _)); refine blk_put (cs := #[.bool false, .int .u8 0, .int .u16 0, .int .u32 0, .int .u64 0, .string (⟨#[]⟩ : ByteArray), .string (⟨#[]⟩ : ByteArray), .string (⟨#[]⟩ : ByteArray)]) ?_ 2 _ rfl; (with_reducible repeat (first | refine bN ?_ _ | refine bD ?_ | refine bA ?_ _)); refine blk_put (cs := #[.bool false, .int .u8 0, .int .u16 0, .int .u32 0, .int .u64 0, .string (⟨#[]⟩ : ByteArray), .string (⟨#[]⟩ : ByteArray), .string (⟨#[]⟩ : ByteArray)]) ?_ 1 _ rfl; (with_reducible repeat (first | refine bN ?_ _ | refine bD ?_ | refine bA ?_ _)); refine blk_put (cs := #[.bool false, .int .u8 0, .int .u16 0, .int .u32 0, .int .u64 0, .string (⟨#[]⟩ : ByteArray), .string (⟨#[]⟩ : ByteArray), .string (⟨#[]⟩ : ByteArray)]) ?_ 0 _ (by first | rfl | (rw [show (bt a0 0 == 129) = true by (first | assumption | exact beq_iff_eq.mpr (by assumption))]; rfl) | (rw [show (bt a0 0 == 129) = false by (first | assumption | exact beq_eq_false_iff_ne.mpr (by assumption))]; rfl)); (with_reducible repeat (first | refine bN ?_ _ | refine bD ?_ | refine bA ?_ _)); exact BK129.out) Try.underlying26 rfl (by kernel_rfl)) rfl ?_
    exact ⟨xR, bH HB.out⟩
   ·replace c9 := Bool.eq_false_iff.mpr c9; subst c9; rw [if_neg (show ¬ (false = true) by decide)] at H
    by_cases c11 : (a0.size : Int) < 24
    ·rw [if_pos c11] at H; have c11b0 : decide ((a0.size : Int) < 24) = true := decide_eq_true c11; have c11b1 : decide (a0.size < 24) = true := decide_eq_true (by omega); clear c11; simp only [Option.some.injEq, Prod.mk.injEq] at H; obtain ⟨rfl, rfl, rfl, rfl, rfl, rfl, rfl, rfl, rfl, rfl⟩ := H; obtain ⟨hcz12, hfz12⟩ := d8 BK129; go_wp2; refine bodyPost_ret (results_ctt rfl _ _ gb129 26 #[.bool false, .int .u8 0, .int .u16 0, .int .u32 0, .int .u64 0, .string (⟨#[]⟩ : ByteArray), .string (⟨#[]⟩ : ByteArray), .string (⟨#[]⟩ : ByteArray)] (0, 0) _ rfl (by (with_reducible repeat (first | refine bN ?_ _ | refine bD ?_ | refine bA ?_ _)); refine blk_put (cs := #[.bool false, .int .u8 0, .int .u16 0, .int .u32 0, .int .u64 0, .string (⟨#[]⟩ : ByteArray), .string (⟨#[]⟩ : ByteArray), .string (⟨#[]⟩ : ByteArray)]) ?_ 7 _ rfl; (with_reducible repeat (first | refine bN ?_ _ | refine bD ?_ | refine bA ?_ _)); refine blk_put (cs := #[.bool false, .int .u8 0, .int .u16 0, .int .u32 0, .int .u64 0, .string (⟨#[]⟩ : ByteArray), .string (⟨#[]⟩ : ByteArray), .string (⟨#[]⟩ : ByteArray)]) ?_ 6 _ rfl; (with_reducible repeat (first | refine bN ?_ _ | refine bD ?_ | refine bA ?_ _)); refine blk_put (cs := #[.bool false, .int .u8 0, .int .u16 0, .int .u32 0, .int .u64 0, .string (⟨#[]⟩ : ByteArray), .string (⟨#[]⟩ : ByteArray), .string (⟨#[]⟩ : ByteArray)]) ?_ 5 _ rfl; (with_reducible repeat (first | refine bN ?_ _ | refine bD ?_ | refine bA ?_ _)); refine blk_put (cs := #[.bool false, .int .u8 0, .int .u16 0, .int .u32 0, .int .u64 0, .string (⟨#[]⟩ : ByteArray), .string (⟨#[]⟩ : ByteArray), .string (⟨#[]⟩ : ByteArray)]) ?_ 4 _ rfl; (with_reducible repeat (first | refine bN ?_ _ | refine bD ?_ | refine bA ?_ _)); refine blk_put (cs := #[.bool false, .int .u8 0, .int .u16 0, .int .u32 0, .int .u64 0, .string (⟨#[]⟩ : ByteArray), .string (⟨#[]⟩ : ByteArray), .string (⟨#[]⟩ : ByteArray)]) ?_ 3 _ rfl; (with_reducible repeat (first | refine bN ?_ _ | refine bD ?_ | refine bA ?_ _)); refine blk_put (cs := #[.bool false, .int .u8 0, .int .u16 0, .int .u32 0, .int .u64 0, .string (⟨#[]⟩ : ByteArray), .string (⟨#[]⟩ : ByteArray), .string (⟨#[]⟩ : ByteArray)]) ?_ 2 _ rfl; (with_reducible repeat (first | refine bN ?_ _ | refine bD ?_ | refine bA ?_ _)); refine blk_put (cs := #[.bool false, .int .u8 0, .int .u16 0, .int .u32 0, .int .u64 0, .string (⟨#[]⟩ : ByteArray), .string (⟨#[]⟩ : ByteArray), .string (⟨#[]⟩ : ByteArray)]) ?_ 1 _ rfl; (with_reducible repeat (first | refine bN ?_ _ | refine bD ?_ | refine bA ?_ _)); refine blk_put (cs := #[.bool false, .int .u8 0, .int .u16 0, .int .u32 0, .int .u64 0, .string (⟨#[]⟩ : ByteArray), .string (⟨#[]⟩ : ByteArray), .string (⟨#[]⟩ : ByteArray)]) ?_ 0 _ (by first | rfl | (rw [show (bt a0 0 == 129) = true by (first | assumption | exact beq_iff_eq.mpr (by assumption))]; rfl) | (rw [show (bt a0 0 == 129) = false by (first | assumption | exact beq_eq_false_iff_ne.mpr (by assumption))]; rfl)); (with_reducible repeat (first | refine bN ?_ _ | refine bD ?_ | refine bA ?_ _)); exact BK129.out) Try.underlying26 rfl (by kernel_rfl)) rfl ?_
     exact ⟨xR, bH HB.out⟩
    ·rw [if_neg c11] at H; have c11b0 : decide ((a0.size : Int) < 24) = false := decide_eq_false c11; have c11b1 : decide (a0.size < 24) = false := decide_eq_false (by omega); clear c11
     by_cases c13 : 2 ≤ 4
     ·rw [if_pos c13] at H; have c13b0 := eq_true c13; have c13b1 : decide (2 ≤ 4) = true := decide_eq_true c13; clear c13
      by_cases c14 : 4 ≤ (a0.size : Int)
      ·rw [if_pos c14] at H; have c14b0 := eq_true c14; have c14b1 : decide (4 ≤ (a0.size : Int)) = true := decide_eq_true c14; clear c14; replace H := Option.bind_eq_some_iff.mp H; obtain ⟨t130, A150, H⟩ := H; (try dsimp only at H); have A15 := Aside0.mk A150; clear A150
       by_cases c16 : 4 < (a0.size : Int)
       ·rw [if_pos c16] at H; have c16b0 : decide (4 < (a0.size : Int)) = true := decide_eq_true c16; have c16b1 : decide (4 < a0.size) = true := decide_eq_true (by omega); clear c16
        by_cases c18 : 8 ≤ 12
        ·rw [if_pos c18] at H; have c18b0 := eq_true c18; have c18b1 : decide (8 ≤ 12) = true := decide_eq_true c18; clear c18
         by_cases c19 : 12 ≤ (a0.size : Int)
         ·rw [if_pos c19] at H; have c19b0 := eq_true c19; have c19b1 : decide (12 ≤ (a0.size : Int)) = true := decide_eq_true c19; clear c19; replace H := Option.bind_eq_some_iff.mp H; obtain ⟨t131, A200, H⟩ := H; (try dsimp only at H); have A20 := Aside0.mk A200; clear A200
          by_cases c21 : 0 < (a0.size : Int)
          ·rw [if_pos c21] at H; have c21b0 : decide (0 < (a0.size : Int)) = true := decide_eq_true c21; have c21b1 : decide (0 < a0.size) = true := decide_eq_true (by omega); clear c21
           by_cases c23 : 1 < (a0.size : Int)
           ·rw [if_pos c23] at H; have c23b0 : decide (1 < (a0.size : Int)) = true := decide_eq_true c23; have c23b1 : decide (1 < a0.size) = true := decide_eq_true (by omega); clear c23
            by_cases c25 : 6 ≤ 8
            ·rw [if_pos c25] at H; have c25b0 := eq_true c25; have c25b1 : decide (6 ≤ 8) = true := decide_eq_true c25; clear c25
             by_cases c26 : 8 ≤ (a0.size : Int)
             ·rw [if_pos c26] at H; have c26b0 := eq_true c26; have c26b1 : decide (8 ≤ (a0.size : Int)) = true := decide_eq_true c26; clear c26; replace H := Option.bind_eq_some_iff.mp H; obtain ⟨t132, A270, H⟩ := H; (try dsimp only at H); have A27 := Aside0.mk A270; clear A270
              by_cases c28 : 12 ≤ 16
              ·rw [if_pos c28] at H; have c28b0 := eq_true c28; have c28b1 : decide (12 ≤ 16) = true := decide_eq_true c28; clear c28
               by_cases c29 : 16 ≤ (a0.size : Int)
               ·rw [if_pos c29] at H; have c29b0 := eq_true c29; have c29b1 : decide (16 ≤ (a0.size : Int)) = true := decide_eq_true c29; clear c29; replace H := Option.bind_eq_some_iff.mp H; obtain ⟨t133, A300, H⟩ := H; (try dsimp only at H); have A30 := Aside0.mk A300; clear A300
                by_cases c31 : 16 ≤ 24
                ·rw [if_pos c31] at H; have c31b0 := eq_true c31; have c31b1 : decide (16 ≤ 24) = true := decide_eq_true c31; clear c31
                 by_cases c32 : 24 ≤ (a0.size : Int)
                 ·rw [if_pos c32] at H; have c32b0 := eq_true c32; have c32b1 : decide (24 ≤ (a0.size : Int)) = true := decide_eq_true c32; clear c32; replace H := Option.bind_eq_some_iff.mp H; obtain ⟨t134, A330, H⟩ := H; (try dsimp only at H); have A33 := Aside0.mk A330; clear A330; have HC34 := Aside0.mk H; clear H
                  try go_wp2
                  replace BK129 := Aside0.mk (bD BK129.out); replace HB := Aside0.mk (eD HB.out); have p17 : 0 ≤ (4 : Int) := (by omega); have q17 : 4 < a0.size := (by have : (4 : Int) < (a0.size : Int) := of_decide_eq_true (by first | (with_reducible assumption) | assumption); omega)
                  have hx17 : ∀ h : 4 < a0.size, ((a0[4]'h).toNat : Int) = bt a0 4 := bt_at a0 4
                  clear p17; have qi17 : (4 < (a0.size : Int)) = True := eq_true (of_decide_eq_true (by first | (with_reducible assumption) | assumption)); replace q17 := eq_true q17; refine start_ (n := 14) (S := fun w' => True) (ds := []) #[false, false, false, false, false, false, false, false, false, false, false, false, false, false] (by kernel_rfl) rfl rfl trivial (fun hHeld => ?_); refine with_tabW tallboyref29_Unpack.tab5 tallboyref29_Unpack.bits5 (fun HT_ HW_ => ?_)
                  generalize wc.drew = w35 at BK129 HB hHeld ⊢; refine pU HT_ 0 (some 27) ?_ #[true, false, false, false, false, false, false, false, false, false, false, false, false, false] rfl rfl ?_ ?_ ?_ ?_
                  rotate_left
                  ·intro w'
                   go_simp
                   with_reducible rfl
                  rotate_left
                  ·simp only [Act.put, sA, sB, sC, i64_w, i32_w]
                   rfl
                  refine pU HT_ 1 (some 28) ?_ #[true, true, false, false, false, false, false, false, false, false, false, false, false, false] rfl rfl ?_ ?_ ?_ ?_
                  rotate_left
                  ·intro w'
                   go_simp
                   with_reducible rfl
                  rotate_left
                  ·simp only [Act.put, sA, sB, sC, i64_w, i32_w]
                   rfl
                  refine pU HT_ 4 (some 31) ?_ #[true, true, false, false, true, false, false, false, false, false, false, false, false, false] rfl rfl ?_ ?_ ?_ ?_
                  rotate_left
                  ·intro w'
                   go_simp
                   with_reducible rfl
                  rotate_left
                  ·simp only [Act.put, sA, sB, sC, i64_w, i32_w]
                   rfl
                  refine pU HT_ 7 (some 34) ?_ #[true, true, false, false, true, false, false, true, false, false, false, false, false, false] rfl rfl ?_ ?_ ?_ ?_
                  rotate_left
                  ·intro w'
                   go_simp
                   with_reducible rfl
                  rotate_left
                  ·simp only [Act.put, sA, sB, sC, i64_w, i32_w]
                   rfl
                  refine pU HT_ 8 (some 35) ?_ #[true, true, false, false, true, false, false, true, true, false, false, false, false, false] rfl rfl ?_ ?_ ?_ ?_
                  rotate_left
                  ·intro w'
                   go_simp
                   with_reducible rfl
                  rotate_left
                  ·simp only [Act.put, sA, sB, sC, i64_w, i32_w]
                   rfl
                  refine tU HT_ HW_ hHeld 5 (some 32) ?_ #[true, true, false, false, true, true, false, true, true, false, false, false, false, false] rfl rfl ?_ ?_ ?_ ?_
                  rotate_left
                  ·intro w' _
                   go_simp
                   with_reducible rfl
                  rotate_left
                  ·simp only [Act.put, sA, sB, sC, i64_w, i32_w]
                   rfl
                  refine pU HT_ 6 (some 33) ?_ #[true, true, false, false, true, true, true, true, true, false, false, false, false, false] rfl rfl ?_ ?_ ?_ ?_
                  rotate_left
                  ·intro w'
                   go_simp
                   with_reducible rfl
                  rotate_left
                  ·simp only [Act.put, sA, sB, sC, i64_w, i32_w]
                   rfl
                  refine one_ (i := 2) (N := some 29) #[true, true, true, false, true, true, true, true, true, false, false, false, false, false] rfl rfl (one_of HT_.out (by kernel_rfl)) (by decide) (fun K hK => ?_)
                  refine goes_ Try.func42 (by kernel_rfl) rfl #[.string (a0.extract 2 4)] (by rfl) rfl rfl (by (try simp only [List.map_toArray, List.map_cons, List.map_nil]); first | done | rfl | (simp only [List.length_drop, List.length_take]; rfl)) ?_
                  with_reducible refine (tallboyref29_Take.calls kj1 (a0.extract 2 4) t130 _ A15.out).mono ?_
                  rintro e w' ⟨rfl, ⟨nd, rfl⟩⟩
                  refine ⟨_, rfl, ?_⟩
                  refine hK.out _ _ trivial (fun hHeld => ?_)
                  clear hK K; refine norm_ (a' := ?_) ?_ ?_
                  rotate_left
                  ·show Act.put _ (some 29) _ = _
                   simp only [Act.put, sA, sB, sC, i64_w, i32_w]
                   rfl
                  refine pU HT_ 3 (some 30) ?_ #[true, true, true, true, true, true, true, true, true, false, false, false, false, false] rfl rfl ?_ ?_ ?_ ?_
                  rotate_left
                  ·intro w'
                   go_simp
                   with_reducible rfl
                  rotate_left
                  ·simp only [Act.put, sA, sB, sC, i64_w, i32_w]
                   rfl
                  refine one_ (i := 9) (N := some 36) #[true, true, true, true, true, true, true, true, true, true, false, false, false, false] rfl rfl (one_of HT_.out (by kernel_rfl)) (by decide) (fun K hK => ?_)
                  refine goes_ Try.func42 (by kernel_rfl) rfl #[.string (a0.extract 8 12)] (by rfl) rfl rfl (by (try simp only [List.map_toArray, List.map_cons, List.map_nil]); first | done | rfl | (simp only [List.length_drop, List.length_take]; rfl)) ?_
                  with_reducible refine (tallboyref29_Take.calls kj1 (a0.extract 8 12) t131 _ A20.out).mono ?_
                  rintro e w' ⟨rfl, ⟨nd, rfl⟩⟩
                  refine ⟨_, rfl, ?_⟩
                  refine hK.out _ _ trivial (fun hHeld => ?_)
                  clear hK K; refine norm_ (a' := ?_) ?_ ?_
                  rotate_left
                  ·show Act.put _ (some 36) _ = _
                   simp only [Act.put, sA, sB, sC, i64_w, i32_w]
                   rfl
                  refine pU HT_ 10 (some 37) ?_ #[true, true, true, true, true, true, true, true, true, true, true, false, false, false] rfl rfl ?_ ?_ ?_ ?_
                  rotate_left
                  ·intro w'
                   go_simp
                   with_reducible rfl
                  rotate_left
                  ·simp only [Act.put, sA, sB, sC, i64_w, i32_w]
                   rfl
                  refine pU HT_ 11 (some 5) ?_ #[true, true, true, true, true, true, true, true, true, true, true, true, false, false] rfl rfl ?_ ?_ ?_ ?_
                  rotate_left
                  ·intro w'
                   go_simp
                   with_reducible rfl
                  rotate_left
                  ·simp only [Act.put, sA, sB, sC, i64_w, i32_w]
                   rfl
                  refine pU HT_ 12 (some 6) ?_ #[true, true, true, true, true, true, true, true, true, true, true, true, true, false] rfl rfl ?_ ?_ ?_ ?_
                  rotate_left
                  ·intro w'
                   go_simp
                   with_reducible rfl
                  rotate_left
                  ·simp only [Act.put, sA, sB, sC, i64_w, i32_w]
                   rfl
                  refine pU HT_ 13 (some 7) ?_ #[true, true, true, true, true, true, true, true, true, true, true, true, true, true] rfl rfl ?_ ?_ ?_ ?_
                  rotate_left
                  ·intro w'
                   go_simp
                   with_reducible rfl
                  rotate_left
                  ·simp only [Act.put, sA, sB, sC, i64_w, i32_w]
                   rfl
                  refine done_ (done_of HT_.out (by kernel_rfl)) ?_
                  try go_wp2
                  (try simp only [World.drewN_drewN]); (try (rw [drewN_self w35]; generalize hq_ : World.drewN w35 _ = w35; have n0_ := Aside0.mk (bQ BK129.out hq_); have n1_ := Aside0.mk (bF HB.out hq_); clear BK129 HB hq_; have BK129 := n0_; have HB := n1_; clear n0_ n1_))
                  replace BK129 := Aside0.mk (bD BK129.out); replace HB := Aside0.mk (eD HB.out); have p22 : 0 ≤ (0 : Int) := (by omega); have q22 : 0 < a0.size := (by have : (0 : Int) < (a0.size : Int) := of_decide_eq_true (by first | (with_reducible assumption) | assumption); omega)
                  have hx22 : ∀ h : 0 < a0.size, ((a0[0]'h).toNat : Int) = bt a0 0 := bt_at a0 0
                  clear p22; have qi22 : (0 < (a0.size : Int)) = True := eq_true (of_decide_eq_true (by first | (with_reducible assumption) | assumption)); replace q22 := eq_true q22; have p24 : 0 ≤ (1 : Int) := (by omega); have q24 : 1 < a0.size := (by have : (1 : Int) < (a0.size : Int) := of_decide_eq_true (by first | (with_reducible assumption) | assumption); omega)
                  have hx24 : ∀ h : 1 < a0.size, ((a0[1]'h).toNat : Int) = bt a0 1 := bt_at a0 1
                  clear p24; have qi24 : (1 < (a0.size : Int)) = True := eq_true (of_decide_eq_true (by first | (with_reducible assumption) | assumption)); replace q24 := eq_true q24; refine start_ (n := 19) (S := fun w' => True) (ds := []) #[false, false, false, false, false, false, false, false, false, false, false, false, false, false, false, false, false, false, false] (by kernel_rfl) rfl rfl trivial (fun hHeld => ?_); refine with_tabW tallboyref29_Unpack.tab6 tallboyref29_Unpack.bits6 (fun HT_ HW_ => ?_)
                  generalize w35.drew = w36 at BK129 HB hHeld ⊢; refine pU HT_ 0 (some 38) ?_ #[true, false, false, false, false, false, false, false, false, false, false, false, false, false, false, false, false, false, false] rfl rfl ?_ ?_ ?_ ?_
                  rotate_left
                  ·intro w'
                   go_simp
                   with_reducible rfl
                  rotate_left
                  ·simp only [Act.put, sA, sB, sC, i64_w, i32_w]
                   rfl
                  refine pU HT_ 3 (some 41) ?_ #[true, false, false, true, false, false, false, false, false, false, false, false, false, false, false, false, false, false, false] rfl rfl ?_ ?_ ?_ ?_
                  rotate_left
                  ·intro w'
                   go_simp
                   with_reducible rfl
                  rotate_left
                  ·simp only [Act.put, sA, sB, sC, i64_w, i32_w]
                   rfl
                  refine pU HT_ 5 (some 43) ?_ #[true, false, false, true, false, true, false, false, false, false, false, false, false, false, false, false, false, false, false] rfl rfl ?_ ?_ ?_ ?_
                  rotate_left
                  ·intro w'
                   go_simp
                   with_reducible rfl
                  rotate_left
                  ·simp only [Act.put, sA, sB, sC, i64_w, i32_w]
                   rfl
                  refine pU HT_ 6 (some 44) ?_ #[true, false, false, true, false, true, true, false, false, false, false, false, false, false, false, false, false, false, false] rfl rfl ?_ ?_ ?_ ?_
                  rotate_left
                  ·intro w'
                   go_simp
                   with_reducible rfl
                  rotate_left
                  ·simp only [Act.put, sA, sB, sC, i64_w, i32_w]
                   rfl
                  refine pU HT_ 9 (some 47) ?_ #[true, false, false, true, false, true, true, false, false, true, false, false, false, false, false, false, false, false, false] rfl rfl ?_ ?_ ?_ ?_
                  rotate_left
                  ·intro w'
                   go_simp
                   with_reducible rfl
                  rotate_left
                  ·simp only [Act.put, sA, sB, sC, i64_w, i32_w]
                   rfl
                  refine pU HT_ 10 (some 48) ?_ #[true, false, false, true, false, true, true, false, false, true, true, false, false, false, false, false, false, false, false] rfl rfl ?_ ?_ ?_ ?_
                  rotate_left
                  ·intro w'
                   go_simp
                   with_reducible rfl
                  rotate_left
                  ·simp only [Act.put, sA, sB, sC, i64_w, i32_w]
                   rfl
                  refine pU HT_ 13 (some 51) ?_ #[true, false, false, true, false, true, true, false, false, true, true, false, false, true, false, false, false, false, false] rfl rfl ?_ ?_ ?_ ?_
                  rotate_left
                  ·intro w'
                   go_simp
                   with_reducible rfl
                  rotate_left
                  ·simp only [Act.put, sA, sB, sC, i64_w, i32_w]
                   rfl
                  refine pU HT_ 14 (some 52) ?_ #[true, false, false, true, false, true, true, false, false, true, true, false, false, true, true, false, false, false, false] rfl rfl ?_ ?_ ?_ ?_
                  rotate_left
                  ·intro w'
                   go_simp
                   with_reducible rfl
                  rotate_left
                  ·simp only [Act.put, sA, sB, sC, i64_w, i32_w]
                   rfl
                  refine tU HT_ HW_ hHeld 1 (some 39) ?_ #[true, true, false, true, false, true, true, false, false, true, true, false, false, true, true, false, false, false, false] rfl rfl ?_ ?_ ?_ ?_
                  rotate_left
                  ·intro w' _
                   go_simp
                   with_reducible rfl
                  rotate_left
                  ·simp only [Act.put, sA, sB, sC, i64_w, i32_w]
                   rfl
                  refine pU HT_ 2 (some 40) ?_ #[true, true, true, true, false, true, true, false, false, true, true, false, false, true, true, false, false, false, false] rfl rfl ?_ ?_ ?_ ?_
                  rotate_left
                  ·intro w'
                   go_simp
                   with_reducible rfl
                  rotate_left
                  ·simp only [Act.put, sA, sB, sC, i64_w, i32_w]
                   rfl
                  refine tU HT_ HW_ hHeld 4 (some 42) ?_ #[true, true, true, true, true, true, true, false, false, true, true, false, false, true, true, false, false, false, false] rfl rfl ?_ ?_ ?_ ?_
                  rotate_left
                  ·intro w' _
                   go_simp
                   with_reducible rfl
                  rotate_left
                  ·simp only [Act.put, sA, sB, sC, i64_w, i32_w]
                   rfl
                  refine join_ (σ := Nat) 1 #[true, true, true, true, true, true, true, true, true, true, true, true, true, true, true, true, true, true, false] (fun s_ => [(45, .int .u64 t132), (49, .int .u64 t133), (53, .int .u64 t134), (8, .pointer (some ⟨s_, 0, none⟩)), (46, .int .u16 (IntKind.u16.wrap (t132))), (50, .int .u32 ((t133) % 4294967296)), (54, .agg #[.bool ((bt a0 0) == 129), .int .u8 (bt a0 1), .int .u16 (IntKind.u16.wrap (t132)), .int .u32 ((t133) % 4294967296), .int .u64 t134, .string (⟨#[]⟩ : ByteArray), .string (⟨#[]⟩ : ByteArray), .string (⟨#[]⟩ : ByteArray)])]) (fun s_ w' => (w'.heap[gb129]? = some (.cells #[.bool false, .int .u8 0, .int .u16 0, .int .u32 0, .int .u64 0, .string (⟨#[]⟩ : ByteArray), .string (⟨#[]⟩ : ByteArray), .string (⟨#[]⟩ : ByteArray)] 26 (0, 0))) ∧ (w'.heap[s_]? = some (.cells #[.bool false, .int .u8 0, .int .u16 0, .int .u32 0, .int .u64 0, .string (⟨#[]⟩ : ByteArray), .string (⟨#[]⟩ : ByteArray), .string (⟨#[]⟩ : ByteArray)] 26 (0, 0))) ∧ (w.heap.size ≤ s_) ∧ (w.heap.size ≤ s_) ∧ (gb129 ≠ s_) ∧ (s_ ≠ gb129) ∧ (Below w.heap.size w w')) ?_ ?_
                  rotate_left
                  ·intro hCont
                   refine two_ (i := 7) (j := 17) (Ni := some 45) (Nj := some 8) #[true, true, true, true, true, true, true, true, false, true, true, false, false, true, true, false, false, false, false] #[true, true, true, true, true, true, true, false, false, true, true, false, false, true, true, false, false, true, false] rfl rfl rfl rfl (two_of HT_.out (by kernel_rfl)) (by decide) (by decide) (fun K hK => ?_) (fun K hK => ?_)
                   ·skip
                    refine goes_ Try.func42 (by kernel_rfl) rfl #[.string (a0.extract 6 8)] (by rfl) rfl rfl (by (try simp only [List.map_toArray, List.map_cons, List.map_nil]); first | done | rfl | (simp only [List.length_drop, List.length_take]; rfl)) ?_
                    with_reducible refine (tallboyref29_Take.calls kj1 (a0.extract 6 8) t132 _ A27.out).mono ?_
                    rintro e w' ⟨rfl, ⟨nd, rfl⟩⟩
                    refine ⟨_, rfl, ?_⟩
                    refine hK.out _ _ trivial (fun hHeld => ?_)
                    clear hK K; refine norm_ (a' := ?_) ?_ ?_
                    rotate_left
                    ·show Act.put _ (some 45) _ = _
                     simp only [Act.put, sA, sB, sC, i64_w, i32_w]
                     rfl
                    refine pU HT_ 8 (some 46) ?_ #[true, true, true, true, true, true, true, true, true, true, true, false, false, true, true, false, false, false, false] rfl rfl ?_ ?_ ?_ ?_
                    rotate_left
                    ·intro w'
                     go_simp
                     with_reducible rfl
                    rotate_left
                    ·simp only [Act.put, sA, sB, sC, i64_w, i32_w]
                     rfl
                    refine two_ (i := 11) (j := 17) (Ni := some 49) (Nj := some 8) #[true, true, true, true, true, true, true, true, true, true, true, true, false, true, true, false, false, false, false] #[true, true, true, true, true, true, true, true, true, true, true, false, false, true, true, false, false, true, false] rfl rfl rfl rfl (two_of HT_.out (by kernel_rfl)) (by decide) (by decide) (fun K hK => ?_) (fun K hK => ?_)
                    ·skip
                     refine goes_ Try.func42 (by kernel_rfl) rfl #[.string (a0.extract 12 16)] (by rfl) rfl rfl (by (try simp only [List.map_toArray, List.map_cons, List.map_nil]); first | done | rfl | (simp only [List.length_drop, List.length_take]; rfl)) ?_
                     with_reducible refine (tallboyref29_Take.calls kj1 (a0.extract 12 16) t133 _ A30.out).mono ?_
                     rintro e w' ⟨rfl, ⟨nd, rfl⟩⟩
                     refine ⟨_, rfl, ?_⟩
                     refine hK.out _ _ trivial (fun hHeld => ?_)
                     clear hK K; refine norm_ (a' := ?_) ?_ ?_
                     rotate_left
                     ·show Act.put _ (some 49) _ = _
                      simp only [Act.put, sA, sB, sC, i64_w, i32_w]
                      rfl
                     refine pU HT_ 12 (some 50) ?_ #[true, true, true, true, true, true, true, true, true, true, true, true, true, true, true, false, false, false, false] rfl rfl ?_ ?_ ?_ ?_
                     rotate_left
                     ·intro w'
                      go_simp
                      with_reducible rfl
                     rotate_left
                     ·simp only [Act.put, sA, sB, sC, i64_w, i32_w]
                      rfl
                     refine two_ (i := 15) (j := 17) (Ni := some 53) (Nj := some 8) #[true, true, true, true, true, true, true, true, true, true, true, true, true, true, true, true, false, false, false] #[true, true, true, true, true, true, true, true, true, true, true, true, true, true, true, false, false, true, false] rfl rfl rfl rfl (two_of HT_.out (by kernel_rfl)) (by decide) (by decide) (fun K hK => ?_) (fun K hK => ?_)
                     ·skip
                      refine goes_ Try.func42 (by kernel_rfl) rfl #[.string (a0.extract 16 24)] (by rfl) rfl rfl (by (try simp only [List.map_toArray, List.map_cons, List.map_nil]); first | done | rfl | (simp only [List.length_drop, List.length_take]; rfl)) ?_
                      with_reducible refine (tallboyref29_Take.calls kj1 (a0.extract 16 24) t134 _ A33.out).mono ?_
                      rintro e w' ⟨rfl, ⟨nd, rfl⟩⟩
                      refine ⟨_, rfl, ?_⟩
                      refine hK.out _ _ trivial (fun hHeld => ?_)
                      clear hK K; refine norm_ (a' := ?_) ?_ ?_
                      rotate_left
                      ·show Act.put _ (some 53) _ = _
                       simp only [Act.put, sA, sB, sC, i64_w, i32_w]
                       rfl
                      refine pU HT_ 16 (some 54) ?_ #[true, true, true, true, true, true, true, true, true, true, true, true, true, true, true, true, true, false, false] rfl rfl ?_ ?_ ?_ ?_
                      rotate_left
                      ·intro w'
                       go_simp
                       with_reducible rfl
                      rotate_left
                      ·simp only [Act.put, sA, sB, sC, i64_w, i32_w]
                       rfl
                      refine one_ (i := 17) (N := some 8) #[true, true, true, true, true, true, true, true, true, true, true, true, true, true, true, true, true, true, false] rfl rfl (one_of HT_.out (by kernel_rfl)) (by decide) (fun K hK => ?_)
                      refine box_step ?hg (N := 8) ?hd (cs := #[.bool false, .int .u8 0, .int .u16 0, .int .u32 0, .int .u64 0, .string (⟨#[]⟩ : ByteArray), .string (⟨#[]⟩ : ByteArray), .string (⟨#[]⟩ : ByteArray)]) (t := 26) ?hr ?_; (case hd => rfl); (case hg => rfl); (case hr => first | (go_simp; done) | (go_simp; rfl))
                      intro gb135 hg w37 hbox hb
                      have BK135 := rM hbox; have GW135 := rG HB hg; replace HB := rS HB hb; have GE135 := GW135; have NB129_135 := rN BK129 hg; replace BK129 := rB BK129 hb; have NB135_129 := rY NB129_135; clear hb hbox hg; refine hK.out _ _ trivial (fun hHeld => ?_)
                      clear hK K; refine norm_ (a' := ?_) ?_ ?_
                      rotate_left
                      ·show Act.put _ (some 8) _ = _
                       simp only [Act.put, sA, sB, sC, i64_w, i32_w]
                       rfl
                      exact norm_ (by simp only [putAll, Act.put, sA, sB, sC, uW]) (hCont (gb135) _ ⟨(bK BK129.out), (bK BK135.out), GW135.out, GE135.out, NB129_135.out, NB135_129.out, (bH HB.out)⟩)
                     ·skip
                      refine box_step ?hg (N := 8) ?hd (cs := #[.bool false, .int .u8 0, .int .u16 0, .int .u32 0, .int .u64 0, .string (⟨#[]⟩ : ByteArray), .string (⟨#[]⟩ : ByteArray), .string (⟨#[]⟩ : ByteArray)]) (t := 26) ?hr ?_; (case hd => rfl); (case hg => rfl); (case hr => first | (go_simp; done) | (go_simp; rfl))
                      intro gb135 hg w37 hbox hb
                      have BK135 := rM hbox; have GW135 := rG HB hg; replace HB := rS HB hb; have GE135 := GW135; have NB129_135 := rN BK129 hg; replace BK129 := rB BK129 hb; have NB135_129 := rY NB129_135; clear hb hbox hg; refine hK.out _ _ trivial (fun hHeld => ?_)
                      clear hK K; refine norm_ (a' := ?_) ?_ ?_
                      rotate_left
                      ·show Act.put _ (some 8) _ = _
                       simp only [Act.put, sA, sB, sC, i64_w, i32_w]
                       rfl
                      refine one_ (i := 15) (N := some 53) #[true, true, true, true, true, true, true, true, true, true, true, true, true, true, true, true, false, true, false] rfl rfl (one_of HT_.out (by kernel_rfl)) (by decide) (fun K hK => ?_)
                      refine goes_ Try.func42 (by kernel_rfl) rfl #[.string (a0.extract 16 24)] (by rfl) rfl rfl (by (try simp only [List.map_toArray, List.map_cons, List.map_nil]); first | done | rfl | (simp only [List.length_drop, List.length_take]; rfl)) ?_
                      with_reducible refine (tallboyref29_Take.calls kj1 (a0.extract 16 24) t134 _ A33.out).mono ?_
                      rintro e w' ⟨rfl, ⟨nd, rfl⟩⟩
                      refine ⟨_, rfl, ?_⟩
                      refine hK.out _ _ trivial (fun hHeld => ?_)
                      clear hK K; refine norm_ (a' := ?_) ?_ ?_
                      rotate_left
                      ·show Act.put _ (some 53) _ = _
                       simp only [Act.put, sA, sB, sC, i64_w, i32_w]
                       rfl
                      refine pU HT_ 16 (some 54) ?_ #[true, true, true, true, true, true, true, true, true, true, true, true, true, true, true, true, true, true, false] rfl rfl ?_ ?_ ?_ ?_
                      rotate_left
                      ·intro w'
                       go_simp
                       with_reducible rfl
                      rotate_left
                      ·simp only [Act.put, sA, sB, sC, i64_w, i32_w]
                       rfl
                      exact norm_ (by simp only [putAll, Act.put, sA, sB, sC, uW]) (hCont (gb135) _ ⟨(bK BK129.out), (bK BK135.out), GW135.out, GE135.out, NB129_135.out, NB135_129.out, (bH HB.out)⟩)
                    ·skip
                     refine box_step ?hg (N := 8) ?hd (cs := #[.bool false, .int .u8 0, .int .u16 0, .int .u32 0, .int .u64 0, .string (⟨#[]⟩ : ByteArray), .string (⟨#[]⟩ : ByteArray), .string (⟨#[]⟩ : ByteArray)]) (t := 26) ?hr ?_; (case hd => rfl); (case hg => rfl); (case hr => first | (go_simp; done) | (go_simp; rfl))
                     intro gb135 hg w37 hbox hb
                     have BK135 := rM hbox; have GW135 := rG HB hg; replace HB := rS HB hb; have GE135 := GW135; have NB129_135 := rN BK129 hg; replace BK129 := rB BK129 hb; have NB135_129 := rY NB129_135; clear hb hbox hg; refine hK.out _ _ trivial (fun hHeld => ?_)
                     clear hK K; refine norm_ (a' := ?_) ?_ ?_
                     rotate_left
                     ·show Act.put _ (some 8) _ = _
                      simp only [Act.put, sA, sB, sC, i64_w, i32_w]
                      rfl
                     refine one_ (i := 11) (N := some 49) #[true, true, true, true, true, true, true, true, true, true, true, true, false, true, true, false, false, true, false] rfl rfl (one_of HT_.out (by kernel_rfl)) (by decide) (fun K hK => ?_)
                     refine goes_ Try.func42 (by kernel_rfl) rfl #[.string (a0.extract 12 16)] (by rfl) rfl rfl (by (try simp only [List.map_toArray, List.map_cons, List.map_nil]); first | done | rfl | (simp only [List.length_drop, List.length_take]; rfl)) ?_
                     with_reducible refine (tallboyref29_Take.calls kj1 (a0.extract 12 16) t133 _ A30.out).mono ?_
                     rintro e w' ⟨rfl, ⟨nd, rfl⟩⟩
                     refine ⟨_, rfl, ?_⟩
                     refine hK.out _ _ trivial (fun hHeld => ?_)
                     clear hK K; refine norm_ (a' := ?_) ?_ ?_
                     rotate_left
                     ·show Act.put _ (some 49) _ = _
                      simp only [Act.put, sA, sB, sC, i64_w, i32_w]
                      rfl
                     refine pU HT_ 12 (some 50) ?_ #[true, true, true, true, true, true, true, true, true, true, true, true, true, true, true, false, false, true, false] rfl rfl ?_ ?_ ?_ ?_
                     rotate_left
                     ·intro w'
                      go_simp
                      with_reducible rfl
                     rotate_left
                     ·simp only [Act.put, sA, sB, sC, i64_w, i32_w]
                      rfl
                     refine one_ (i := 15) (N := some 53) #[true, true, true, true, true, true, true, true, true, true, true, true, true, true, true, true, false, true, false] rfl rfl (one_of HT_.out (by kernel_rfl)) (by decide) (fun K hK => ?_)
                     refine goes_ Try.func42 (by kernel_rfl) rfl #[.string (a0.extract 16 24)] (by rfl) rfl rfl (by (try simp only [List.map_toArray, List.map_cons, List.map_nil]); first | done | rfl | (simp only [List.length_drop, List.length_take]; rfl)) ?_
                     with_reducible refine (tallboyref29_Take.calls kj1 (a0.extract 16 24) t134 _ A33.out).mono ?_
                     rintro e w' ⟨rfl, ⟨nd, rfl⟩⟩
                     refine ⟨_, rfl, ?_⟩
                     refine hK.out _ _ trivial (fun hHeld => ?_)
                     clear hK K; refine norm_ (a' := ?_) ?_ ?_
                     rotate_left
                     ·show Act.put _ (some 53) _ = _
                      simp only [Act.put, sA, sB, sC, i64_w, i32_w]
                      rfl
                     refine pU HT_ 16 (some 54) ?_ #[true, true, true, true, true, true, true, true, true, true, true, true, true, true, true, true, true, true, false] rfl rfl ?_ ?_ ?_ ?_
                     rotate_left
                     ·intro w'
                      go_simp
                      with_reducible rfl
                     rotate_left
                     ·simp only [Act.put, sA, sB, sC, i64_w, i32_w]
                      rfl
                     exact norm_ (by simp only [putAll, Act.put, sA, sB, sC, uW]) (hCont (gb135) _ ⟨(bK BK129.out), (bK BK135.out), GW135.out, GE135.out, NB129_135.out, NB135_129.out, (bH HB.out)⟩)
                   ·skip
                    refine box_step ?hg (N := 8) ?hd (cs := #[.bool false, .int .u8 0, .int .u16 0, .int .u32 0, .int .u64 0, .string (⟨#[]⟩ : ByteArray), .string (⟨#[]⟩ : ByteArray), .string (⟨#[]⟩ : ByteArray)]) (t := 26) ?hr ?_; (case hd => rfl); (case hg => rfl); (case hr => first | (go_simp; done) | (go_simp; rfl))
                    intro gb135 hg w37 hbox hb
                    have BK135 := rM hbox; have GW135 := rG HB hg; replace HB := rS HB hb; have GE135 := GW135; have NB129_135 := rN BK129 hg; replace BK129 := rB BK129 hb; have NB135_129 := rY NB129_135; clear hb hbox hg; refine hK.out _ _ trivial (fun hHeld => ?_)
                    clear hK K; refine norm_ (a' := ?_) ?_ ?_
                    rotate_left
                    ·show Act.put _ (some 8) _ = _
                     simp only [Act.put, sA, sB, sC, i64_w, i32_w]
                     rfl
                    refine one_ (i := 7) (N := some 45) #[true, true, true, true, true, true, true, true, false, true, true, false, false, true, true, false, false, true, false] rfl rfl (one_of HT_.out (by kernel_rfl)) (by decide) (fun K hK => ?_)
                    refine goes_ Try.func42 (by kernel_rfl) rfl #[.string (a0.extract 6 8)] (by rfl) rfl rfl (by (try simp only [List.map_toArray, List.map_cons, List.map_nil]); first | done | rfl | (simp only [List.length_drop, List.length_take]; rfl)) ?_
                    with_reducible refine (tallboyref29_Take.calls kj1 (a0.extract 6 8) t132 _ A27.out).mono ?_
                    rintro e w' ⟨rfl, ⟨nd, rfl⟩⟩
                    refine ⟨_, rfl, ?_⟩
                    refine hK.out _ _ trivial (fun hHeld => ?_)
                    clear hK K; refine norm_ (a' := ?_) ?_ ?_
                    rotate_left
                    ·show Act.put _ (some 45) _ = _
                     simp only [Act.put, sA, sB, sC, i64_w, i32_w]
                     rfl
                    refine pU HT_ 8 (some 46) ?_ #[true, true, true, true, true, true, true, true, true, true, true, false, false, true, true, false, false, true, false] rfl rfl ?_ ?_ ?_ ?_
                    rotate_left
                    ·intro w'
                     go_simp
                     with_reducible rfl
                    rotate_left
                    ·simp only [Act.put, sA, sB, sC, i64_w, i32_w]
                     rfl
                    refine one_ (i := 11) (N := some 49) #[true, true, true, true, true, true, true, true, true, true, true, true, false, true, true, false, false, true, false] rfl rfl (one_of HT_.out (by kernel_rfl)) (by decide) (fun K hK => ?_)
                    refine goes_ Try.func42 (by kernel_rfl) rfl #[.string (a0.extract 12 16)] (by rfl) rfl rfl (by (try simp only [List.map_toArray, List.map_cons, List.map_nil]); first | done | rfl | (simp only [List.length_drop, List.length_take]; rfl)) ?_
                    with_reducible refine (tallboyref29_Take.calls kj1 (a0.extract 12 16) t133 _ A30.out).mono ?_
                    rintro e w' ⟨rfl, ⟨nd, rfl⟩⟩
                    refine ⟨_, rfl, ?_⟩
                    refine hK.out _ _ trivial (fun hHeld => ?_)
                    clear hK K; refine norm_ (a' := ?_) ?_ ?_
                    rotate_left
                    ·show Act.put _ (some 49) _ = _
                     simp only [Act.put, sA, sB, sC, i64_w, i32_w]
                     rfl
                    refine pU HT_ 12 (some 50) ?_ #[true, true, true, true, true, true, true, true, true, true, true, true, true, true, true, false, false, true, false] rfl rfl ?_ ?_ ?_ ?_
                    rotate_left
                    ·intro w'
                     go_simp
                     with_reducible rfl
                    rotate_left
                    ·simp only [Act.put, sA, sB, sC, i64_w, i32_w]
                     rfl
                    refine one_ (i := 15) (N := some 53) #[true, true, true, true, true, true, true, true, true, true, true, true, true, true, true, true, false, true, false] rfl rfl (one_of HT_.out (by kernel_rfl)) (by decide) (fun K hK => ?_)
                    refine goes_ Try.func42 (by kernel_rfl) rfl #[.string (a0.extract 16 24)] (by rfl) rfl rfl (by (try simp only [List.map_toArray, List.map_cons, List.map_nil]); first | done | rfl | (simp only [List.length_drop, List.length_take]; rfl)) ?_
                    with_reducible refine (tallboyref29_Take.calls kj1 (a0.extract 16 24) t134 _ A33.out).mono ?_
                    rintro e w' ⟨rfl, ⟨nd, rfl⟩⟩
                    refine ⟨_, rfl, ?_⟩
                    refine hK.out _ _ trivial (fun hHeld => ?_)
                    clear hK K; refine norm_ (a' := ?_) ?_ ?_
                    rotate_left
                    ·show Act.put _ (some 53) _ = _
                     simp only [Act.put, sA, sB, sC, i64_w, i32_w]
                     rfl
                    refine pU HT_ 16 (some 54) ?_ #[true, true, true, true, true, true, true, true, true, true, true, true, true, true, true, true, true, true, false] rfl rfl ?_ ?_ ?_ ?_
                    rotate_left
                    ·intro w'
                     go_simp
                     with_reducible rfl
                    rotate_left
                    ·simp only [Act.put, sA, sB, sC, i64_w, i32_w]
                     rfl
                    exact norm_ (by simp only [putAll, Act.put, sA, sB, sC, uW]) (hCont (gb135) _ ⟨(bK BK129.out), (bK BK135.out), GW135.out, GE135.out, NB129_135.out, NB135_129.out, (bH HB.out)⟩)
                  rintro gb135 w38 ⟨h0_, h1_, h2_, h3_, h4_, h5_, h6_⟩
                  have n0_ : Aside0 (w38.heap[gb129]? = some (.cells #[.bool false, .int .u8 0, .int .u16 0, .int .u32 0, .int .u64 0, .string (⟨#[]⟩ : ByteArray), .string (⟨#[]⟩ : ByteArray), .string (⟨#[]⟩ : ByteArray)] 26 (0, 0))) := ⟨h0_⟩; have n1_ : Aside0 (w38.heap[gb135]? = some (.cells #[.bool false, .int .u8 0, .int .u16 0, .int .u32 0, .int .u64 0, .string (⟨#[]⟩ : ByteArray), .string (⟨#[]⟩ : ByteArray), .string (⟨#[]⟩ : ByteArray)] 26 (0, 0))) := ⟨h1_⟩; have n2_ : Aside0 (w.heap.size ≤ gb135) := ⟨h2_⟩; have n3_ : Aside0 (w.heap.size ≤ gb135) := ⟨h3_⟩; have n4_ : Aside0 (gb129 ≠ gb135) := ⟨h4_⟩; have n5_ : Aside0 (gb135 ≠ gb129) := ⟨h5_⟩; have n6_ : Aside0 (Below w.heap.size w w38) := ⟨h6_⟩; clear BK129; clear HB; clear h0_ h1_ h2_ h3_ h4_ h5_ h6_; have BK129 := n0_; have BK135 := n1_; have GW135 := n2_; have GE135 := n3_; have NB129_135 := n4_; have NB135_129 := n5_; have HB := n6_; clear n0_ n1_ n2_ n3_ n4_ n5_ n6_; have hHeld := trivial; refine norm_ (a' := ?_) ?_ ?_
                  rotate_left
                  ·simp only [putAll, Act.put, sA, sB, sC]
                   rfl
                  refine one_ (i := 18) (N := none) #[true, true, true, true, true, true, true, true, true, true, true, true, true, true, true, true, true, true, true] rfl rfl (one_of HT_.out (by kernel_rfl)) (by decide) (fun K hK => ?_)
                  have hs39 : w38.cell? ⟨gb135, 0, none⟩ = some (.bool false) := (blk_cell BK135.out 0).trans rfl; have hfs39 := blk_frozen BK135.out 0; have hns39_0 := NB129_135.out; have hms39_0 := NB135_129.out; have hs40 : w38.cell? ⟨gb135, 1, none⟩ = some (.int .u8 0) := (blk_cell BK135.out 1).trans rfl; have hfs40 := blk_frozen BK135.out 1; have hns40_0 := NB129_135.out; have hms40_0 := NB135_129.out; have hs41 : w38.cell? ⟨gb135, 2, none⟩ = some (.int .u16 0) := (blk_cell BK135.out 2).trans rfl; have hfs41 := blk_frozen BK135.out 2; have hns41_0 := NB129_135.out; have hms41_0 := NB135_129.out; have hs42 : w38.cell? ⟨gb135, 3, none⟩ = some (.int .u32 0) := (blk_cell BK135.out 3).trans rfl; have hfs42 := blk_frozen BK135.out 3; have hns42_0 := NB129_135.out; have hms42_0 := NB135_129.out; have hs43 : w38.cell? ⟨gb135, 4, none⟩ = some (.int .u64 0) := (blk_cell BK135.out 4).trans rfl; have hfs43 := blk_frozen BK135.out 4; have hns43_0 := NB129_135.out; have hms43_0 := NB135_129.out; have hs44 : w38.cell? ⟨gb135, 5, none⟩ = some (.string (⟨#[]⟩ : ByteArray)) := (blk_cell BK135.out 5).trans rfl; have hfs44 := blk_frozen BK135.out 5; have hns44_0 := NB129_135.out; have hms44_0 := NB135_129.out; have hs45 : w38.cell? ⟨gb135, 6, none⟩ = some (.string (⟨#[]⟩ : ByteArray)) := (blk_cell BK135.out 6).trans rfl; have hfs45 := blk_frozen BK135.out 6; have hns45_0 := NB129_135.out; have hms45_0 := NB135_129.out; have hs46 : w38.cell? ⟨gb135, 7, none⟩ = some (.string (⟨#[]⟩ : ByteArray)) := (blk_cell BK135.out 7).trans rfl; have hfs46 := blk_frozen BK135.out 7; have hns46_0 := NB129_135.out; have hms46_0 := NB135_129.out; refine skip_ (w1 := ?_) (by rfl) rfl ?_ ?_
                  rotate_left
                  ·go_simp
                   rfl
                  refine hK.out _ _ trivial (fun hHeld => ?_)
                  clear hK K; refine done_ (done_of HT_.out (by kernel_rfl)) ?_
                  go_upto_region 7 with (fail)
                  go_cut [55] (fun v55 wc => ∃ (kq : Nat) (x55_33 : Bool), v55 = .bool x55_33 ∧ Aside0 (tallboyref29_Unpack.j1 kq a0 (wrap64 (t130)) (wrap64 (bt a0 4)) (wrap64 (t131)) x55_33 ((bt a0 0) == 129) (bt a0 1) (IntKind.u16.wrap (t132)) ((t133) % 4294967296) t134 (⟨#[]⟩ : ByteArray) (⟨#[]⟩ : ByteArray) (⟨#[]⟩ : ByteArray) = some (r1, r2, r3, r4, r5, r6, r7, r8, r9, r10)) ∧ Aside0 (kq ≤ kj1) ∧ Aside0 (wc.heap[gb129]? = some (.cells #[.bool false, .int .u8 0, .int .u16 0, .int .u32 0, .int .u64 0, .string (⟨#[]⟩ : ByteArray), .string (⟨#[]⟩ : ByteArray), .string (⟨#[]⟩ : ByteArray)] 26 (0, 0))) ∧ Aside0 (wc.heap[gb135]? = some (.cells #[.bool ((bt a0 0) == 129), .int .u8 (bt a0 1), .int .u16 (IntKind.u16.wrap (t132)), .int .u32 ((t133) % 4294967296), .int .u64 t134, .string (⟨#[]⟩ : ByteArray), .string (⟨#[]⟩ : ByteArray), .string (⟨#[]⟩ : ByteArray)] 26 (0, 0))) ∧ Aside0 (Below w.heap.size w wc))
                  case first =>
                   have H := HC34.out; clear HC34
                   by_cases c47 : 5 < (a0.size : Int)
                   ·rw [if_pos c47] at H; have c47b0 : decide (5 < (a0.size : Int)) = true := decide_eq_true c47; have c47b1 : decide (5 < a0.size) = true := decide_eq_true (by omega); clear c47
                    (first | rw [c47b0] | (simp only [i64_w, i32_w]; rw [c47b0]) | skip)
                    by_cases c49 : (bt a0 5) = 0
                    ·rw [if_pos c49] at H; have c49b0 : ((bt a0 5) == 0) = true := beq_iff_eq.mpr c49; have c49b1 : ((bt a0 5) != 0) = false := bne_eq_false_iff_eq.mpr c49; clear c49
                     by_cases c50 : ((bt a0 0) = 129)
                     ·rw [if_pos c50] at H; have c50b0 : ((bt a0 0) == 129) = true := beq_iff_eq.mpr c50; have c50b1 : ((bt a0 0) != 129) = false := bne_eq_false_iff_eq.mpr c50; clear c50; have H' := Aside0.mk H; clear H; have p48 : 0 ≤ (5 : Int) := (by omega); have q48 : 5 < a0.size := (by have : (5 : Int) < (a0.size : Int) := of_decide_eq_true (by first | (with_reducible assumption) | assumption); omega)
                      have hx48 : ∀ h : 5 < a0.size, ((a0[5]'h).toNat : Int) = bt a0 5 := bt_at a0 5
                      clear p48; have qi48 : (5 < (a0.size : Int)) = True := eq_true (of_decide_eq_true (by first | (with_reducible assumption) | assumption)); replace q48 := eq_true q48; have hnb51 := rP NB135_129 NB129_135; obtain ⟨hcz52, hfz52⟩ := d8 BK135; go_wp2
                      go_meet
                      case rel => exact ⟨_, (decide ((wrap64 ((wrap64 (t130)) + (wrap64 (bt a0 4)))) > (wrap64 (t131)))), (by first | rfl | (simp; done) | (simp [*]; done)), H', ⟨by have := HJ1.out; first | omega | exact Nat.le_refl _⟩, ⟨bK BK129.out⟩, ⟨by (with_reducible repeat (first | refine bN ?_ _ | refine bD ?_ | refine bA ?_ _)); refine blk_put (cs := #[.bool ((bt a0 0) == 129), .int .u8 (bt a0 1), .int .u16 (IntKind.u16.wrap (t132)), .int .u32 ((t133) % 4294967296), .int .u64 t134, .string (⟨#[]⟩ : ByteArray), .string (⟨#[]⟩ : ByteArray), .string (⟨#[]⟩ : ByteArray)]) ?_ 7 _ rfl; (with_reducible repeat (first | refine bN ?_ _ | refine bD ?_ | refine bA ?_ _)); refine blk_put (cs := #[.bool ((bt a0 0) == 129), .int .u8 (bt a0 1), .int .u16 (IntKind.u16.wrap (t132)), .int .u32 ((t133) % 4294967296), .int .u64 t134, .string (⟨#[]⟩ : ByteArray), .string (⟨#[]⟩ : ByteArray), .string (⟨#[]⟩ : ByteArray)]) ?_ 6 _ rfl; (with_reducible repeat (first | refine bN ?_ _ | refine bD ?_ | refine bA ?_ _)); refine blk_put (cs := #[.bool ((bt a0 0) == 129), .int .u8 (bt a0 1), .int .u16 (IntKind.u16.wrap (t132)), .int .u32 ((t133) % 4294967296), .int .u64 t134, .string (⟨#[]⟩ : ByteArray), .string (⟨#[]⟩ : ByteArray), .string (⟨#[]⟩ : ByteArray)]) ?_ 5 _ rfl; (with_reducible repeat (first | refine bN ?_ _ | refine bD ?_ | refine bA ?_ _)); refine blk_put (cs := #[.bool ((bt a0 0) == 129), .int .u8 (bt a0 1), .int .u16 (IntKind.u16.wrap (t132)), .int .u32 ((t133) % 4294967296), .int .u64 0, .string (⟨#[]⟩ : ByteArray), .string (⟨#[]⟩ : ByteArray), .string (⟨#[]⟩ : ByteArray)]) ?_ 4 _ rfl; (with_reducible repeat (first | refine bN ?_ _ | refine bD ?_ | refine bA ?_ _)); refine blk_put (cs := #[.bool ((bt a0 0) == 129), .int .u8 (bt a0 1), .int .u16 (IntKind.u16.wrap (t132)), .int .u32 0, .int .u64 0, .string (⟨#[]⟩ : ByteArray), .string (⟨#[]⟩ : ByteArray), .string (⟨#[]⟩ : ByteArray)]) ?_ 3 _ rfl; (with_reducible repeat (first | refine bN ?_ _ | refine bD ?_ | refine bA ?_ _)); refine blk_put (cs := #[.bool ((bt a0 0) == 129), .int .u8 (bt a0 1), .int .u16 0, .int .u32 0, .int .u64 0, .string (⟨#[]⟩ : ByteArray), .string (⟨#[]⟩ : ByteArray), .string (⟨#[]⟩ : ByteArray)]) ?_ 2 _ rfl; (with_reducible repeat (first | refine bN ?_ _ | refine bD ?_ | refine bA ?_ _)); refine blk_put (cs := #[.bool ((bt a0 0) == 129), .int .u8 0, .int .u16 0, .int .u32 0, .int .u64 0, .string (⟨#[]⟩ : ByteArray), .string (⟨#[]⟩ : ByteArray), .string (⟨#[]⟩ : ByteArray)]) ?_ 1 _ rfl; (with_reducible repeat (first | refine bN ?_ _ | refine bD ?_ | refine bA ?_ _)); refine blk_put (cs := #[.bool false, .int .u8 0, .int .u16 0, .int .u32 0, .int .u64 0, .string (⟨#[]⟩ : ByteArray), .string (⟨#[]⟩ : ByteArray), .string (⟨#[]⟩ : ByteArray)]) ?_ 0 _ (by first | rfl | (rw [show (bt a0 0 == 129) = true by (first | assumption | exact beq_iff_eq.mpr (by assumption))]; rfl) | (rw [show (bt a0 0 == 129) = false by (first | assumption | exact beq_eq_false_iff_ne.mpr (by assumption))]; rfl)); (with_reducible repeat (first | refine bN ?_ _ | refine bD ?_ | refine bA ?_ _)); exact BK135.out⟩, ⟨bH HB.out⟩⟩
                     ·rw [if_neg c50] at H; have c50b0 : ((bt a0 0) == 129) = false := beq_eq_false_iff_ne.mpr c50; have c50b1 : ((bt a0 0) != 129) = true := bne_iff_ne.mpr c50
                      by_cases c53 : (IntKind.u16.wrap (t132)) = 0
                      ·rw [if_pos c53] at H; have c53b0 : ((IntKind.u16.wrap (t132)) == 0) = true := beq_iff_eq.mpr c53; have c53b1 : ((IntKind.u16.wrap (t132)) != 0) = false := bne_eq_false_iff_eq.mpr c53; clear c53; have H' := Aside0.mk H; clear H; have p48 : 0 ≤ (5 : Int) := (by omega); have q48 : 5 < a0.size := (by have : (5 : Int) < (a0.size : Int) := of_decide_eq_true (by first | (with_reducible assumption) | assumption); omega)
                       have hx48 : ∀ h : 5 < a0.size, ((a0[5]'h).toNat : Int) = bt a0 5 := bt_at a0 5
                       clear p48; have qi48 : (5 < (a0.size : Int)) = True := eq_true (of_decide_eq_true (by first | (with_reducible assumption) | assumption)); replace q48 := eq_true q48; have hnb54 := rP NB135_129 NB129_135; obtain ⟨hcz55, hfz55⟩ := d8 BK135; go_wp2
                       go_meet
                       case rel => exact ⟨_, (decide ((wrap64 ((wrap64 (t130)) + (wrap64 (bt a0 4)))) > (wrap64 (t131)))), (by first | rfl | (simp; done) | (simp [*]; done)), H', ⟨by have := HJ1.out; first | omega | exact Nat.le_refl _⟩, ⟨bK BK129.out⟩, ⟨by (with_reducible repeat (first | refine bN ?_ _ | refine bD ?_ | refine bA ?_ _)); refine blk_put (cs := #[.bool ((bt a0 0) == 129), .int .u8 (bt a0 1), .int .u16 (IntKind.u16.wrap (t132)), .int .u32 ((t133) % 4294967296), .int .u64 t134, .string (⟨#[]⟩ : ByteArray), .string (⟨#[]⟩ : ByteArray), .string (⟨#[]⟩ : ByteArray)]) ?_ 7 _ rfl; (with_reducible repeat (first | refine bN ?_ _ | refine bD ?_ | refine bA ?_ _)); refine blk_put (cs := #[.bool ((bt a0 0) == 129), .int .u8 (bt a0 1), .int .u16 (IntKind.u16.wrap (t132)), .int .u32 ((t133) % 4294967296), .int .u64 t134, .string (⟨#[]⟩ : ByteArray), .string (⟨#[]⟩ : ByteArray), .string (⟨#[]⟩ : ByteArray)]) ?_ 6 _ rfl; (with_reducible repeat (first | refine bN ?_ _ | refine bD ?_ | refine bA ?_ _)); refine blk_put (cs := #[.bool ((bt a0 0) == 129), .int .u8 (bt a0 1), .int .u16 (IntKind.u16.wrap (t132)), .int .u32 ((t133) % 4294967296), .int .u64 t134, .string (⟨#[]⟩ : ByteArray), .string (⟨#[]⟩ : ByteArray), .string (⟨#[]⟩ : ByteArray)]) ?_ 5 _ rfl; (with_reducible repeat (first | refine bN ?_ _ | refine bD ?_ | refine bA ?_ _)); refine blk_put (cs := #[.bool ((bt a0 0) == 129), .int .u8 (bt a0 1), .int .u16 (IntKind.u16.wrap (t132)), .int .u32 ((t133) % 4294967296), .int .u64 0, .string (⟨#[]⟩ : ByteArray), .string (⟨#[]⟩ : ByteArray), .string (⟨#[]⟩ : ByteArray)]) ?_ 4 _ rfl; (with_reducible repeat (first | refine bN ?_ _ | refine bD ?_ | refine bA ?_ _)); refine blk_put (cs := #[.bool ((bt a0 0) == 129), .int .u8 (bt a0 1), .int .u16 (IntKind.u16.wrap (t132)), .int .u32 0, .int .u64 0, .string (⟨#[]⟩ : ByteArray), .string (⟨#[]⟩ : ByteArray), .string (⟨#[]⟩ : ByteArray)]) ?_ 3 _ rfl; (with_reducible repeat (first | refine bN ?_ _ | refine bD ?_ | refine bA ?_ _)); refine blk_put (cs := #[.bool ((bt a0 0) == 129), .int .u8 (bt a0 1), .int .u16 0, .int .u32 0, .int .u64 0, .string (⟨#[]⟩ : ByteArray), .string (⟨#[]⟩ : ByteArray), .string (⟨#[]⟩ : ByteArray)]) ?_ 2 _ rfl; (with_reducible repeat (first | refine bN ?_ _ | refine bD ?_ | refine bA ?_ _)); refine blk_put (cs := #[.bool ((bt a0 0) == 129), .int .u8 0, .int .u16 0, .int .u32 0, .int .u64 0, .string (⟨#[]⟩ : ByteArray), .string (⟨#[]⟩ : ByteArray), .string (⟨#[]⟩ : ByteArray)]) ?_ 1 _ rfl; (with_reducible repeat (first | refine bN ?_ _ | refine bD ?_ | refine bA ?_ _)); refine blk_put (cs := #[.bool false, .int .u8 0, .int .u16 0, .int .u32 0, .int .u64 0, .string (⟨#[]⟩ : ByteArray), .string (⟨#[]⟩ : ByteArray), .string (⟨#[]⟩ : ByteArray)]) ?_ 0 _ (by first | rfl | (rw [show (bt a0 0 == 129) = true by (first | assumption | exact beq_iff_eq.mpr (by assumption))]; rfl) | (rw [show (bt a0 0 == 129) = false by (first | assumption | exact beq_eq_false_iff_ne.mpr (by assumption))]; rfl)); (with_reducible repeat (first | refine bN ?_ _ | refine bD ?_ | refine bA ?_ _)); exact BK135.out⟩, ⟨bH HB.out⟩⟩
                      ·rw [if_neg c53] at H; have c53b0 : ((IntKind.u16.wrap (t132)) == 0) = false := beq_eq_false_iff_ne.mpr c53; have c53b1 : ((IntKind.u16.wrap (t132)) != 0) = true := bne_iff_ne.mpr c53; have H' := Aside0.mk H; clear H; have p48 : 0 ≤ (5 : Int) := (by omega); have q48 : 5 < a0.size := (by have : (5 : Int) < (a0.size : Int) := of_decide_eq_true (by first | (with_reducible assumption) | assumption); omega)
                       have hx48 : ∀ h : 5 < a0.size, ((a0[5]'h).toNat : Int) = bt a0 5 := bt_at a0 5
                       clear p48; have qi48 : (5 < (a0.size : Int)) = True := eq_true (of_decide_eq_true (by first | (with_reducible assumption) | assumption)); replace q48 := eq_true q48; have hnb56 := rP NB135_129 NB129_135; obtain ⟨hcz57, hfz57⟩ := d8 BK135; go_wp2
                       go_meet
                       case rel => exact ⟨_, (true), (by first | rfl | (simp; done) | (simp [*]; done)), H', ⟨by have := HJ1.out; first | omega | exact Nat.le_refl _⟩, ⟨bK BK129.out⟩, ⟨by (with_reducible repeat (first | refine bN ?_ _ | refine bD ?_ | refine bA ?_ _)); refine blk_put (cs := #[.bool ((bt a0 0) == 129), .int .u8 (bt a0 1), .int .u16 (IntKind.u16.wrap (t132)), .int .u32 ((t133) % 4294967296), .int .u64 t134, .string (⟨#[]⟩ : ByteArray), .string (⟨#[]⟩ : ByteArray), .string (⟨#[]⟩ : ByteArray)]) ?_ 7 _ rfl; (with_reducible repeat (first | refine bN ?_ _ | refine bD ?_ | refine bA ?_ _)); refine blk_put (cs := #[.bool ((bt a0 0) == 129), .int .u8 (bt a0 1), .int .u16 (IntKind.u16.wrap (t132)), .int .u32 ((t133) % 4294967296), .int .u64 t134, .string (⟨#[]⟩ : ByteArray), .string (⟨#[]⟩ : ByteArray), .string (⟨#[]⟩ : ByteArray)]) ?_ 6 _ rfl; (with_reducible repeat (first | refine bN ?_ _ | refine bD ?_ | refine bA ?_ _)); refine blk_put (cs := #[.bool ((bt a0 0) == 129), .int .u8 (bt a0 1), .int .u16 (IntKind.u16.wrap (t132)), .int .u32 ((t133) % 4294967296), .int .u64 t134, .string (⟨#[]⟩ : ByteArray), .string (⟨#[]⟩ : ByteArray), .string (⟨#[]⟩ : ByteArray)]) ?_ 5 _ rfl; (with_reducible repeat (first | refine bN ?_ _ | refine bD ?_ | refine bA ?_ _)); refine blk_put (cs := #[.bool ((bt a0 0) == 129), .int .u8 (bt a0 1), .int .u16 (IntKind.u16.wrap (t132)), .int .u32 ((t133) % 4294967296), .int .u64 0, .string (⟨#[]⟩ : ByteArray), .string (⟨#[]⟩ : ByteArray), .string (⟨#[]⟩ : ByteArray)]) ?_ 4 _ rfl; (with_reducible repeat (first | refine bN ?_ _ | refine bD ?_ | refine bA ?_ _)); refine blk_put (cs := #[.bool ((bt a0 0) == 129), .int .u8 (bt a0 1), .int .u16 (IntKind.u16.wrap (t132)), .int .u32 0, .int .u64 0, .string (⟨#[]⟩ : ByteArray), .string (⟨#[]⟩ : ByteArray), .string (⟨#[]⟩ : ByteArray)]) ?_ 3 _ rfl; (with_reducible repeat (first | refine bN ?_ _ | refine bD ?_ | refine bA ?_ _)); refine blk_put (cs := #[.bool ((bt a0 0) == 129), .int .u8 (bt a0 1), .int .u16 0, .int .u32 0, .int .u64 0, .string (⟨#[]⟩ : ByteArray), .string (⟨#[]⟩ : ByteArray), .string (⟨#[]⟩ : ByteArray)]) ?_ 2 _ rfl; (with_reducible repeat (first | refine bN ?_ _ | refine bD ?_ | refine bA ?_ _)); refine blk_put (cs := #[.bool ((bt a0 0) == 129), .int .u8 0, .int .u16 0, .int .u32 0, .int .u64 0, .string (⟨#[]⟩ : ByteArray), .string (⟨#[]⟩ : ByteArray), .string (⟨#[]⟩ : ByteArray)]) ?_ 1 _ rfl; (with_reducible repeat (first | refine bN ?_ _ | refine bD ?_ | refine bA ?_ _)); refine blk_put (cs := #[.bool false, .int .u8 0, .int .u16 0, .int .u32 0, .int .u64 0, .string (⟨#[]⟩ : ByteArray), .string (⟨#[]⟩ : ByteArray), .string (⟨#[]⟩ : ByteArray)]) ?_ 0 _ (by first | rfl | (rw [show (bt a0 0 == 129) = true by (first | assumption | exact beq_iff_eq.mpr (by assumption))]; rfl) | (rw [show (bt a0 0 == 129) = false by (first | assumption | exact beq_eq_false_iff_ne.mpr (by assumption))]; rfl)); (with_reducible repeat (first | refine bN ?_ _ | refine bD ?_ | refine bA ?_ _)); exact BK135.out⟩, ⟨bH HB.out⟩⟩
                    ·rw [if_neg c49] at H; have c49b0 : ((bt a0 5) == 0) = false := beq_eq_false_iff_ne.mpr c49; have c49b1 : ((bt a0 5) != 0) = true := bne_iff_ne.mpr c49; have H' := Aside0.mk H; clear H; have p48 : 0 ≤ (5 : Int) := (by omega); have q48 : 5 < a0.size := (by have : (5 : Int) < (a0.size : Int) := of_decide_eq_true (by first | (with_reducible assumption) | assumption); omega)
                     have hx48 : ∀ h : 5 < a0.size, ((a0[5]'h).toNat : Int) = bt a0 5 := bt_at a0 5
                     clear p48; have qi48 : (5 < (a0.size : Int)) = True := eq_true (of_decide_eq_true (by first | (with_reducible assumption) | assumption)); replace q48 := eq_true q48; go_wp2
                     go_meet
                     case rel => exact ⟨_, (true), (by first | rfl | (simp; done) | (simp [*]; done)), H', ⟨by have := HJ1.out; first | omega | exact Nat.le_refl _⟩, ⟨bK BK129.out⟩, ⟨by (with_reducible repeat (first | refine bN ?_ _ | refine bD ?_ | refine bA ?_ _)); refine blk_put (cs := #[.bool ((bt a0 0) == 129), .int .u8 (bt a0 1), .int .u16 (IntKind.u16.wrap (t132)), .int .u32 ((t133) % 4294967296), .int .u64 t134, .string (⟨#[]⟩ : ByteArray), .string (⟨#[]⟩ : ByteArray), .string (⟨#[]⟩ : ByteArray)]) ?_ 7 _ rfl; (with_reducible repeat (first | refine bN ?_ _ | refine bD ?_ | refine bA ?_ _)); refine blk_put (cs := #[.bool ((bt a0 0) == 129), .int .u8 (bt a0 1), .int .u16 (IntKind.u16.wrap (t132)), .int .u32 ((t133) % 4294967296), .int .u64 t134, .string (⟨#[]⟩ : ByteArray), .string (⟨#[]⟩ : ByteArray), .string (⟨#[]⟩ : ByteArray)]) ?_ 6 _ rfl; (with_reducible repeat (first | refine bN ?_ _ | refine bD ?_ | refine bA ?_ _)); refine blk_put (cs := #[.bool ((bt a0 0) == 129), .int .u8 (bt a0 1), .int .u16 (IntKind.u16.wrap (t132)), .int .u32 ((t133) % 4294967296), .int .u64 t134, .string (⟨#[]⟩ : ByteArray), .string (⟨#[]⟩ : ByteArray), .string (⟨#[]⟩ : ByteArray)]) ?_ 5 _ rfl; (with_reducible repeat (first | refine bN ?_ _ | refine bD ?_ | refine bA ?_ _)); refine blk_put (cs := #[.bool ((bt a0 0) == 129), .int .u8 (bt a0 1), .int .u16 (IntKind.u16.wrap (t132)), .int .u32 ((t133) % 4294967296), .int .u64 0, .string (⟨#[]⟩ : ByteArray), .string (⟨#[]⟩ : ByteArray), .string (⟨#[]⟩ : ByteArray)]) ?_ 4 _ rfl; (with_reducible repeat (first | refine bN ?_ _ | refine bD ?_ | refine bA ?_ _)); refine blk_put (cs := #[.bool ((bt a0 0) == 129), .int .u8 (bt a0 1), .int .u16 (IntKind.u16.wrap (t132)), .int .u32 0, .int .u64 0, .string (⟨#[]⟩ : ByteArray), .string (⟨#[]⟩ : ByteArray), .string (⟨#[]⟩ : ByteArray)]) ?_ 3 _ rfl; (with_reducible repeat (first | refine bN ?_ _ | refine bD ?_ | refine bA ?_ _)); refine blk_put (cs := #[.bool ((bt a0 0) == 129), .int .u8 (bt a0 1), .int .u16 0, .int .u32 0, .int .u64 0, .string (⟨#[]⟩ : ByteArray), .string (⟨#[]⟩ : ByteArray), .string (⟨#[]⟩ : ByteArray)]) ?_ 2 _ rfl; (with_reducible repeat (first | refine bN ?_ _ | refine bD ?_ | refine bA ?_ _)); refine blk_put (cs := #[.bool ((bt a0 0) == 129), .int .u8 0, .int .u16 0, .int .u32 0, .int .u64 0, .string (⟨#[]⟩ : ByteArray), .string (⟨#[]⟩ : ByteArray), .string (⟨#[]⟩ : ByteArray)]) ?_ 1 _ rfl; (with_reducible repeat (first | refine bN ?_ _ | refine bD ?_ | refine bA ?_ _)); refine blk_put (cs := #[.bool false, .int .u8 0, .int .u16 0, .int .u32 0, .int .u64 0, .string (⟨#[]⟩ : ByteArray), .string (⟨#[]⟩ : ByteArray), .string (⟨#[]⟩ : ByteArray)]) ?_ 0 _ (by first | rfl | (rw [show (bt a0 0 == 129) = true by (first | assumption | exact beq_iff_eq.mpr (by assumption))]; rfl) | (rw [show (bt a0 0 == 129) = false by (first | assumption | exact beq_eq_false_iff_ne.mpr (by assumption))]; rfl)); (with_reducible repeat (first | refine bN ?_ _ | refine bD ?_ | refine bA ?_ _)); exact BK135.out⟩, ⟨bH HB.out⟩⟩
                   ·rw [if_neg c47] at H; exact absurd H (by simp)
                  case rest =>
                   clear HC34; (try clear c5); (try clear p6); (try clear q22); (try clear p24); (try clear q24); (try clear hx24); (try clear qi24); (try clear c47); (try clear c47b0); (try clear c47b1); (try clear p48); (try clear q48); (try clear hx48); (try clear qi48); (try clear c49); (try clear c49b0); (try clear c49b1); (try clear c50); (try clear c50b0); (try clear c50b1); (try clear c53); (try clear c53b0); (try clear c53b1); (try clear hcz52); (try clear hcz55); (try clear hcz57); (try clear hfz52); (try clear hfz55); (try clear hfz57); (try clear p24); (try clear p48); (try clear q22); (try clear q24); (try clear q48); obtain ⟨kq, x55_33, rfl, HA, HJ33, BK129, BK135, HB⟩ := hcut; cases kq with
                   | zero => exact absurd HA.out (by simp [tallboyref29_Unpack.j1])
                   | succ kj33 =>
                    have H := HA.out; clear HA; simp only [tallboyref29_Unpack.j1] at H
                    by_cases c58 : x55_33 = true
                    ·subst c58; rw [if_pos rfl] at H; simp only [Option.some.injEq, Prod.mk.injEq] at H; obtain ⟨rfl, rfl, rfl, rfl, rfl, rfl, rfl, rfl, rfl, rfl⟩ := H; have hnb59 := rP NB129_135 NB135_129; obtain ⟨hcz60, hfz60⟩ := d8 BK129; go_wp2; refine bodyPost_ret (results_ctt rfl _ _ gb129 26 #[.bool false, .int .u8 0, .int .u16 0, .int .u32 0, .int .u64 0, .string (⟨#[]⟩ : ByteArray), .string (⟨#[]⟩ : ByteArray), .string (⟨#[]⟩ : ByteArray)] (0, 0) _ rfl (by (with_reducible repeat (first | refine bN ?_ _ | refine bD ?_ | refine bA ?_ _)); refine blk_put (cs := #[.bool false, .int .u8 0, .int .u16 0, .int .u32 0, .int .u64 0, .string (⟨#[]⟩ : ByteArray), .string (⟨#[]⟩ : ByteArray), .string (⟨#[]⟩ : ByteArray)]) ?_ 7 _ rfl; (with_reducible repeat (first | refine bN ?_ _ | refine bD ?_ | refine bA ?_ _)); refine blk_put (cs := #[.bool false, .int .u8 0, .int .u16 0, .int .u32 0, .int .u64 0, .string (⟨#[]⟩ : ByteArray), .string (⟨#[]⟩ : ByteArray), .string (⟨#[]⟩ : ByteArray)]) ?_ 6 _ rfl; (with_reducible repeat (first | refine bN ?_ _ | refine bD ?_ | refine bA ?_ _)); refine blk_put (cs := #[.bool false, .int .u8 0, .int .u16 0, .int .u32 0, .int .u64 0, .string (⟨#[]⟩ : ByteArray), .string (⟨#[]⟩ : ByteArray), .string (⟨#[]⟩ : ByteArray)]) ?_ 5 _ rfl; (with_reducible repeat (first | refine bN ?_ _ | refine bD ?_ | refine bA ?_ _)); refine blk_put (cs := #[.bool false, .int .u8 0, .int .u16 0, .int .u32 0, .int .u64 0, .string (⟨#[]⟩ : ByteArray), .string (⟨#[]⟩ : ByteArray), .string (⟨#[]⟩ : ByteArray)]) ?_ 4 _ rfl; (with_reducible repeat (first | refine bN ?_ _ | refine bD ?_ | refine bA ?_ _)); refine blk_put (cs := #[.bool false, .int .u8 0, .int .u16 0, .int .u32 0, .int .u64 0, .string (⟨#[]⟩ : ByteArray), .string (⟨#[]⟩ : ByteArray), .string (⟨#[]⟩ : ByteArray)]) ?_ 3 _ rfl; (with_reducible repeat (first | refine bN ?_ _ | refine bD ?_ | refine bA ?_ _)); refine blk_put (cs := #[.bool false, .int .u8 0, .int .u16 0, .int .u32 0, .int .u64 0, .string (⟨#[]⟩ : ByteArray), .string (⟨#[]⟩ : ByteArray), .string (⟨#[]⟩ : ByteArray)]) ?_ 2 _ rfl; (with_reducible repeat (first | refine bN ?_ _ | refine bD ?_ | refine bA ?_ _)); refine blk_put (cs := #[.bool false, .int .u8 0, .int .u16 0, .int .u32 0, .int .u64 0, .string (⟨#[]⟩ : ByteArray), .string (⟨#[]⟩ : ByteArray), .string (⟨#[]⟩ : ByteArray)]) ?_ 1 _ rfl; (with_reducible repeat (first | refine bN ?_ _ | refine bD ?_ | refine bA ?_ _)); refine blk_put (cs := #[.bool false, .int .u8 0, .int .u16 0, .int .u32 0, .int .u64 0, .string (⟨#[]⟩ : ByteArray), .string (⟨#[]⟩ : ByteArray), .string (⟨#[]⟩ : ByteArray)]) ?_ 0 _ (by first | rfl | (rw [show (bt a0 0 == 129) = true by (first | assumption | exact beq_iff_eq.mpr (by assumption))]; rfl) | (rw [show (bt a0 0 == 129) = false by (first | assumption | exact beq_eq_false_iff_ne.mpr (by assumption))]; rfl)); (with_reducible repeat (first | refine bN ?_ _ | refine bD ?_ | refine bA ?_ _)); exact BK129.out) Try.underlying26 rfl (by kernel_rfl)) rfl ?_
                     exact ⟨xR, bH HB.out⟩
                    ·replace c58 := Bool.eq_false_iff.mpr c58; subst c58; rw [if_neg (show ¬ (false = true) by decide)] at H; have HC61 := Aside0.mk H; clear H
                     go_upto_region 9 with (fail)
                     go_cut [77] (fun v77 wc => ∃ (kq : Nat) (x77_60 : Bool), v77 = .bool x77_60 ∧ Aside0 (tallboyref29_Unpack.j2 kq a0 (wrap64 (t130)) (wrap64 (bt a0 4)) (wrap64 (t131)) x77_60 ((bt a0 0) == 129) (bt a0 1) (IntKind.u16.wrap (t132)) ((t133) % 4294967296) t134 (⟨#[]⟩ : ByteArray) (⟨#[]⟩ : ByteArray) (⟨#[]⟩ : ByteArray) = some (r1, r2, r3, r4, r5, r6, r7, r8, r9, r10)) ∧ Aside0 (kq ≤ kj33) ∧ Aside0 (wc.heap[gb129]? = some (.cells #[.bool false, .int .u8 0, .int .u16 0, .int .u32 0, .int .u64 0, .string (⟨#[]⟩ : ByteArray), .string (⟨#[]⟩ : ByteArray), .string (⟨#[]⟩ : ByteArray)] 26 (0, 0))) ∧ Aside0 (wc.heap[gb135]? = some (.cells #[.bool ((bt a0 0) == 129), .int .u8 (bt a0 1), .int .u16 (IntKind.u16.wrap (t132)), .int .u32 ((t133) % 4294967296), .int .u64 t134, .string (⟨#[]⟩ : ByteArray), .string (⟨#[]⟩ : ByteArray), .string (⟨#[]⟩ : ByteArray)] 26 (0, 0))) ∧ Aside0 (Below w.heap.size w wc))
                     case first =>
                      have H := HC61.out; clear HC61
                      by_cases c62 : (wrap64 (t130)) > 250
                      ·rw [if_pos c62] at H; have c62b0 : decide (250 < (wrap64 (t130))) = true := decide_eq_true c62; clear c62
                       (first | rw [c62b0] | (simp only [i64_w, i32_w]; rw [c62b0]) | skip)
                       have H' := Aside0.mk H; clear H; go_wp2
                       go_meet
                       case rel => exact ⟨_, (true), (by first | rfl | (simp; done) | (simp [*]; done)), H', ⟨by have := HJ1.out; have := HJ33.out; first | omega | exact Nat.le_refl _⟩, ⟨bK BK129.out⟩, ⟨bK BK135.out⟩, ⟨bH HB.out⟩⟩
                      ·rw [if_neg c62] at H; have c62b0 : decide (250 < (wrap64 (t130))) = false := decide_eq_false c62; clear c62
                       (first | rw [c62b0] | (simp only [i64_w, i32_w]; rw [c62b0]) | skip)
                       by_cases c63 : (wrap64 (bt a0 4)) > 20
                       ·rw [if_pos c63] at H; have c63b0 : decide (20 < (wrap64 (bt a0 4))) = true := decide_eq_true c63; clear c63; have H' := Aside0.mk H; clear H; go_wp2
                        go_meet
                        case rel => exact ⟨_, (true), (by first | rfl | (simp; done) | (simp [*]; done)), H', ⟨by have := HJ1.out; have := HJ33.out; first | omega | exact Nat.le_refl _⟩, ⟨bK BK129.out⟩, ⟨bK BK135.out⟩, ⟨bH HB.out⟩⟩
                       ·rw [if_neg c63] at H; have c63b0 : decide (20 < (wrap64 (bt a0 4))) = false := decide_eq_false c63; clear c63; have H' := Aside0.mk H; clear H; go_wp2
                        go_meet
                        case rel => exact ⟨_, (decide ((wrap64 ((wrap64 ((wrap64 (t131)) - (wrap64 (t130)))) - (wrap64 (bt a0 4)))) > 1048576)), (by first | rfl | (simp; done) | (simp [*]; done)), H', ⟨by have := HJ1.out; have := HJ33.out; first | omega | exact Nat.le_refl _⟩, ⟨bK BK129.out⟩, ⟨bK BK135.out⟩, ⟨bH HB.out⟩⟩
                     case rest =>
                      clear HC61; (try clear c5); (try clear p6); (try clear q22); (try clear p24); (try clear q24); (try clear hx24); (try clear qi24); (try clear c47); (try clear c47b0); (try clear c47b1); (try clear p48); (try clear q48); (try clear hx48); (try clear qi48); (try clear c49); (try clear c49b0); (try clear c49b1); (try clear c50); (try clear c50b0); (try clear c50b1); (try clear c53); (try clear c53b0); (try clear c53b1); (try clear c58); (try clear c62b0); (try clear c63b0); (try clear hcz52); (try clear hcz55); (try clear hcz57); (try clear hcz60); (try clear hfz52); (try clear hfz55); (try clear hfz57); (try clear hfz60); (try clear p24); (try clear p48); (try clear p6); (try clear q22); (try clear q24); (try clear q48); obtain ⟨kq, x77_60, rfl, HA, HJ60, BK129, BK135, HB⟩ := hcut; cases kq with
                      | zero => exact absurd HA.out (by simp [tallboyref29_Unpack.j2])
                      | succ kj60 =>
                       have H := HA.out; clear HA; simp only [tallboyref29_Unpack.j2] at H
                       by_cases c64 : x77_60 = true
                       ·subst c64; rw [if_pos rfl] at H; simp only [Option.some.injEq, Prod.mk.injEq] at H; obtain ⟨rfl, rfl, rfl, rfl, rfl, rfl, rfl, rfl, rfl, rfl⟩ := H; have hnb65 := rP NB129_135 NB135_129; obtain ⟨hcz66, hfz66⟩ := d8 BK129; go_wp2; refine bodyPost_ret (results_ctt rfl _ _ gb129 26 #[.bool false, .int .u8 0, .int .u16 0, .int .u32 0, .int .u64 0, .string (⟨#[]⟩ : ByteArray), .string (⟨#[]⟩ : ByteArray), .string (⟨#[]⟩ : ByteArray)] (0, 0) _ rfl (by (with_reducible repeat (first | refine bN ?_ _ | refine bD ?_ | refine bA ?_ _)); refine blk_put (cs := #[.bool false, .int .u8 0, .int .u16 0, .int .u32 0, .int .u64 0, .string (⟨#[]⟩ : ByteArray), .string (⟨#[]⟩ : ByteArray), .string (⟨#[]⟩ : ByteArray)]) ?_ 7 _ rfl; (with_reducible repeat (first | refine bN ?_ _ | refine bD ?_ | refine bA ?_ _)); refine blk_put (cs := #[.bool false, .int .u8 0, .int .u16 0, .int .u32 0, .int .u64 0, .string (⟨#[]⟩ : ByteArray), .string (⟨#[]⟩ : ByteArray), .string (⟨#[]⟩ : ByteArray)]) ?_ 6 _ rfl; (with_reducible repeat (first | refine bN ?_ _ | refine bD ?_ | refine bA ?_ _)); refine blk_put (cs := #[.bool false, .int .u8 0, .int .u16 0, .int .u32 0, .int .u64 0, .string (⟨#[]⟩ : ByteArray), .string (⟨#[]⟩ : ByteArray), .string (⟨#[]⟩ : ByteArray)]) ?_ 5 _ rfl; (with_reducible repeat (first | refine bN ?_ _ | refine bD ?_ | refine bA ?_ _)); refine blk_put (cs := #[.bool false, .int .u8 0, .int .u16 0, .int .u32 0, .int .u64 0, .string (⟨#[]⟩ : ByteArray), .string (⟨#[]⟩ : ByteArray), .string (⟨#[]⟩ : ByteArray)]) ?_ 4 _ rfl; (with_reducible repeat (first | refine bN ?_ _ | refine bD ?_ | refine bA ?_ _)); refine blk_put (cs := #[.bool false, .int .u8 0, .int .u16 0, .int .u32 0, .int .u64 0, .string (⟨#[]⟩ : ByteArray), .string (⟨#[]⟩ : ByteArray), .string (⟨#[]⟩ : ByteArray)]) ?_ 3 _ rfl; (with_reducible repeat (first | refine bN ?_ _ | refine bD ?_ | refine bA ?_ _)); refine blk_put (cs := #[.bool false, .int .u8 0, .int .u16 0, .int .u32 0, .int .u64 0, .string (⟨#[]⟩ : ByteArray), .string (⟨#[]⟩ : ByteArray), .string (⟨#[]⟩ : ByteArray)]) ?_ 2 _ rfl; (with_reducible repeat (first | refine bN ?_ _ | refine bD ?_ | refine bA ?_ _)); refine blk_put (cs := #[.bool false, .int .u8 0, .int .u16 0, .int .u32 0, .int .u64 0, .string (⟨#[]⟩ : ByteArray), .string (⟨#[]⟩ : ByteArray), .string (⟨#[]⟩ : ByteArray)]) ?_ 1 _ rfl; (with_reducible repeat (first | refine bN ?_ _ | refine bD ?_ | refine bA ?_ _)); refine blk_put (cs := #[.bool false, .int .u8 0, .int .u16 0, .int .u32 0, .int .u64 0, .string (⟨#[]⟩ : ByteArray), .string (⟨#[]⟩ : ByteArray), .string (⟨#[]⟩ : ByteArray)]) ?_ 0 _ (by first | rfl | (rw [show (bt a0 0 == 129) = true by (first | assumption | exact beq_iff_eq.mpr (by assumption))]; rfl) | (rw [show (bt a0 0 == 129) = false by (first | assumption | exact beq_eq_false_iff_ne.mpr (by assumption))]; rfl)); (with_reducible repeat (first | refine bN ?_ _ | refine bD ?_ | refine bA ?_ _)); exact BK129.out) Try.underlying26 rfl (by kernel_rfl)) rfl ?_
                        exact ⟨xR, bH HB.out⟩
                       ·replace c64 := Bool.eq_false_iff.mpr c64; subst c64; rw [if_neg (show ¬ (false = true) by decide)] at H
                        by_cases c67 : (wrap64 ((a0.size : Int) - 24)) < (wrap64 (t131))
                        ·rw [if_pos c67] at H; have c67b0 : decide ((wrap64 ((a0.size : Int) - 24)) < (wrap64 (t131))) = true := decide_eq_true c67; clear c67; simp only [Option.some.injEq, Prod.mk.injEq] at H; obtain ⟨rfl, rfl, rfl, rfl, rfl, rfl, rfl, rfl, rfl, rfl⟩ := H; have hnb68 := rP NB129_135 NB135_129; obtain ⟨hcz69, hfz69⟩ := d8 BK129; go_wp2; refine bodyPost_ret (results_ctt rfl _ _ gb129 26 #[.bool false, .int .u8 0, .int .u16 0, .int .u32 0, .int .u64 0, .string (⟨#[]⟩ : ByteArray), .string (⟨#[]⟩ : ByteArray), .string (⟨#[]⟩ : ByteArray)] (0, 0) _ rfl (by (with_reducible repeat (first | refine bN ?_ _ | refine bD ?_ | refine bA ?_ _)); refine blk_put (cs := #[.bool false, .int .u8 0, .int .u16 0, .int .u32 0, .int .u64 0, .string (⟨#[]⟩ : ByteArray), .string (⟨#[]⟩ : ByteArray), .string (⟨#[]⟩ : ByteArray)]) ?_ 7 _ rfl; (with_reducible repeat (first | refine bN ?_ _ | refine bD ?_ | refine bA ?_ _)); refine blk_put (cs := #[.bool false, .int .u8 0, .int .u16 0, .int .u32 0, .int .u64 0, .string (⟨#[]⟩ : ByteArray), .string (⟨#[]⟩ : ByteArray), .string (⟨#[]⟩ : ByteArray)]) ?_ 6 _ rfl; (with_reducible repeat (first | refine bN ?_ _ | refine bD ?_ | refine bA ?_ _)); refine blk_put (cs := #[.bool false, .int .u8 0, .int .u16 0, .int .u32 0, .int .u64 0, .string (⟨#[]⟩ : ByteArray), .string (⟨#[]⟩ : ByteArray), .string (⟨#[]⟩ : ByteArray)]) ?_ 5 _ rfl; (with_reducible repeat (first | refine bN ?_ _ | refine bD ?_ | refine bA ?_ _)); refine blk_put (cs := #[.bool false, .int .u8 0, .int .u16 0, .int .u32 0, .int .u64 0, .string (⟨#[]⟩ : ByteArray), .string (⟨#[]⟩ : ByteArray), .string (⟨#[]⟩ : ByteArray)]) ?_ 4 _ rfl; (with_reducible repeat (first | refine bN ?_ _ | refine bD ?_ | refine bA ?_ _)); refine blk_put (cs := #[.bool false, .int .u8 0, .int .u16 0, .int .u32 0, .int .u64 0, .string (⟨#[]⟩ : ByteArray), .string (⟨#[]⟩ : ByteArray), .string (⟨#[]⟩ : ByteArray)]) ?_ 3 _ rfl; (with_reducible repeat (first | refine bN ?_ _ | refine bD ?_ | refine bA ?_ _)); refine blk_put (cs := #[.bool false, .int .u8 0, .int .u16 0, .int .u32 0, .int .u64 0, .string (⟨#[]⟩ : ByteArray), .string (⟨#[]⟩ : ByteArray), .string (⟨#[]⟩ : ByteArray)]) ?_ 2 _ rfl; (with_reducible repeat (first | refine bN ?_ _ | refine bD ?_ | refine bA ?_ _)); refine blk_put (cs := #[.bool false, .int .u8 0, .int .u16 0, .int .u32 0, .int .u64 0, .string (⟨#[]⟩ : ByteArray), .string (⟨#[]⟩ : ByteArray), .string (⟨#[]⟩ : ByteArray)]) ?_ 1 _ rfl; (with_reducible repeat (first | refine bN ?_ _ | refine bD ?_ | refine bA ?_ _)); refine blk_put (cs := #[.bool false, .int .u8 0, .int .u16 0, .int .u32 0, .int .u64 0, .string (⟨#[]⟩ : ByteArray), .string (⟨#[]⟩ : ByteArray), .string (⟨#[]⟩ : ByteArray)]) ?_ 0 _ (by first | rfl | (rw [show (bt a0 0 == 129) = true by (first | assumption | exact beq_iff_eq.mpr (by assumption))]; rfl) | (rw [show (bt a0 0 == 129) = false by (first | assumption | exact beq_eq_false_iff_ne.mpr (by assumption))]; rfl)); (with_reducible repeat (first | refine bN ?_ _ | refine bD ?_ | refine bA ?_ _)); exact BK129.out) Try.underlying26 rfl (by kernel_rfl)) rfl ?_
                         exact ⟨xR, bH HB.out⟩
                        ·rw [if_neg c67] at H; have c67b0 : decide ((wrap64 ((a0.size : Int) - 24)) < (wrap64 (t131))) = false := decide_eq_false c67; clear c67
                         by_cases c70 : 24 ≤ (wrap64 (24 + (wrap64 (bt a0 4))))
                         ·rw [if_pos c70] at H; have c70b0 := eq_true c70; have c70b1 : decide (24 ≤ (wrap64 (24 + (wrap64 (bt a0 4))))) = true := decide_eq_true c70
                          by_cases c71 : (wrap64 (24 + (wrap64 (bt a0 4)))) ≤ (a0.size : Int)
                          ·rw [if_pos c71] at H; have c71b0 := eq_true c71; have c71b1 : decide ((wrap64 (24 + (wrap64 (bt a0 4)))) ≤ (a0.size : Int)) = true := decide_eq_true c71; obtain ⟨ji72, hji72⟩ : ∃ j_ : Int, (wrap64 (24 + (wrap64 (bt a0 4)))) = j_ := ⟨_, rfl⟩; replace H : (if 0 ≤ (ji72) then (if (ji72) ≤ (wrap64 ((ji72) + (wrap64 (t130)))) then (if (wrap64 ((ji72) + (wrap64 (t130)))) ≤ (a0.size : Int) then (if 0 ≤ (wrap64 ((ji72) + (wrap64 (t130)))) then (if (wrap64 ((ji72) + (wrap64 (t130)))) ≤ (wrap64 (24 + (wrap64 (t131)))) then (if (wrap64 (24 + (wrap64 (t131)))) ≤ (a0.size : Int) then (some (((bt a0 0) == 129), (bt a0 1), (IntKind.u16.wrap (t132)), ((t133) % 4294967296), t134, a0.extract 24 ((ji72) : Int).toNat, a0.extract ((ji72) : Int).toNat ((wrap64 ((ji72) + (wrap64 (t130)))) : Int).toNat, a0.extract ((wrap64 ((ji72) + (wrap64 (t130)))) : Int).toNat ((wrap64 (24 + (wrap64 (t131)))) : Int).toNat, wrap64 (24 + (wrap64 (t131))), 0)) else (none)) else (none)) else (none)) else (none)) else (none)) else (none)) = some (r1, r2, r3, r4, r5, r6, r7, r8, r9, r10) := by first | (rw [hji72] at H; exact H) | (simp only [hji72] at H ⊢; exact H)
                           (try rw [hji72] at c70b0)
                           (try rw [hji72] at c70b1)
                           (try rw [hji72] at c70)
                           (try rw [hji72] at c71b0)
                           (try rw [hji72] at c71b1)
                           (try rw [hji72] at c71)
                           have hji72w : (IntKind.i64.wrap (24 + (wrap64 (bt a0 4)))) = ji72 := (i64_w _).trans hji72
                           by_cases c73 : 0 ≤ (ji72)
                           ·rw [if_pos c73] at H; have c73b0 := eq_true c73; have c73b1 : decide (0 ≤ (ji72)) = true := decide_eq_true c73; clear c73
                            by_cases c74 : (ji72) ≤ (wrap64 ((ji72) + (wrap64 (t130))))
                            ·rw [if_pos c74] at H; have c74b0 := eq_true c74; have c74b1 : decide ((ji72) ≤ (wrap64 ((ji72) + (wrap64 (t130))))) = true := decide_eq_true c74
                             by_cases c75 : (wrap64 ((ji72) + (wrap64 (t130)))) ≤ (a0.size : Int)
                             ·rw [if_pos c75] at H; have c75b0 := eq_true c75; have c75b1 : decide ((wrap64 ((ji72) + (wrap64 (t130)))) ≤ (a0.size : Int)) = true := decide_eq_true c75; obtain ⟨ji76, hji76⟩ : ∃ j_ : Int, (wrap64 ((ji72) + (wrap64 (t130)))) = j_ := ⟨_, rfl⟩; replace H : (if 0 ≤ (ji76) then (if (ji76) ≤ (wrap64 (24 + (wrap64 (t131)))) then (if (wrap64 (24 + (wrap64 (t131)))) ≤ (a0.size : Int) then (some (((bt a0 0) == 129), (bt a0 1), (IntKind.u16.wrap (t132)), ((t133) % 4294967296), t134, a0.extract 24 ((ji72) : Int).toNat, a0.extract ((ji72) : Int).toNat ((ji76) : Int).toNat, a0.extract ((ji76) : Int).toNat ((wrap64 (24 + (wrap64 (t131)))) : Int).toNat, wrap64 (24 + (wrap64 (t131))), 0)) else (none)) else (none)) else (none)) = some (r1, r2, r3, r4, r5, r6, r7, r8, r9, r10) := by first | (rw [hji76] at H; exact H) | (simp only [hji76] at H ⊢; exact H)
                              (try rw [hji76] at c74b0)
                              (try rw [hji76] at c74b1)
                              (try rw [hji76] at c74)
                              (try rw [hji76] at c75b0)
                              (try rw [hji76] at c75b1)
                              (try rw [hji76] at c75)
                              have hji76w : (IntKind.i64.wrap ((ji72) + (wrap64 (t130)))) = ji76 := (i64_w _).trans hji76
                              by_cases c77 : 0 ≤ (ji76)
                              ·rw [if_pos c77] at H; have c77b0 := eq_true c77; have c77b1 : decide (0 ≤ (ji76)) = true := decide_eq_true c77; clear c77
                               by_cases c78 : (ji76) ≤ (wrap64 (24 + (wrap64 (t131))))
                               ·rw [if_pos c78] at H; have c78b0 := eq_true c78; have c78b1 : decide ((ji76) ≤ (wrap64 (24 + (wrap64 (t131))))) = true := decide_eq_true c78
                                by_cases c79 : (wrap64 (24 + (wrap64 (t131)))) ≤ (a0.size : Int)
                                ·rw [if_pos c79] at H; have c79b0 := eq_true c79; have c79b1 : decide ((wrap64 (24 + (wrap64 (t131)))) ≤ (a0.size : Int)) = true := decide_eq_true c79; simp only [Option.some.injEq, Prod.mk.injEq] at H; obtain ⟨rfl, rfl, rfl, rfl, rfl, rfl, rfl, rfl, rfl, rfl⟩ := H; have hnb80 := rP NB135_129 NB129_135; obtain ⟨hcz81, hfz81⟩ := d8 BK135; obtain ⟨hcz82, hfz82⟩ := d8 BK129; go_wp2
                                 refine bodyPost_ret (results_ctt rfl _ _ gb129 26 #[.bool ((bt a0 0) == 129), .int .u8 (bt a0 1), .int .u16 (IntKind.u16.wrap (t132)), .int .u32 ((t133) % 4294967296), .int .u64 t134, .string (a0.extract 24 ((ji72) : Int).toNat), .string (a0.extract ((ji72) : Int).toNat ((ji76) : Int).toNat), .string (a0.extract ((ji76) : Int).toNat ((wrap64 (24 + (wrap64 (t131)))) : Int).toNat)] (0, 0) _ rfl (by (with_reducible repeat (first | refine bN ?_ _ | refine bD ?_ | refine bA ?_ _)); refine blk_put (cs := #[.bool ((bt a0 0) == 129), .int .u8 (bt a0 1), .int .u16 (IntKind.u16.wrap (t132)), .int .u32 ((t133) % 4294967296), .int .u64 t134, .string (a0.extract 24 ((ji72) : Int).toNat), .string (a0.extract ((ji72) : Int).toNat ((ji76) : Int).toNat), .string (⟨#[]⟩ : ByteArray)]) ?_ 7 _ rfl; (with_reducible repeat (first | refine bN ?_ _ | refine bD ?_ | refine bA ?_ _)); refine blk_put (cs := #[.bool ((bt a0 0) == 129), .int .u8 (bt a0 1), .int .u16 (IntKind.u16.wrap (t132)), .int .u32 ((t133) % 4294967296), .int .u64 t134, .string (a0.extract 24 ((ji72) : Int).toNat), .string (⟨#[]⟩ : ByteArray), .string (⟨#[]⟩ : ByteArray)]) ?_ 6 _ rfl; (with_reducible repeat (first | refine bN ?_ _ | refine bD ?_ | refine bA ?_ _)); refine blk_put (cs := #[.bool ((bt a0 0) == 129), .int .u8 (bt a0 1), .int .u16 (IntKind.u16.wrap (t132)), .int .u32 ((t133) % 4294967296), .int .u64 t134, .string (⟨#[]⟩ : ByteArray), .string (⟨#[]⟩ : ByteArray), .string (⟨#[]⟩ : ByteArray)]) ?_ 5 _ rfl; (with_reducible repeat (first | refine bN ?_ _ | refine bD ?_ | refine bA ?_ _)); refine blk_put (cs := #[.bool ((bt a0 0) == 129), .int .u8 (bt a0 1), .int .u16 (IntKind.u16.wrap (t132)), .int .u32 ((t133) % 4294967296), .int .u64 0, .string (⟨#[]⟩ : ByteArray), .string (⟨#[]⟩ : ByteArray), .string (⟨#[]⟩ : ByteArray)]) ?_ 4 _ rfl; (with_reducible repeat (first | refine bN ?_ _ | refine bD ?_ | refine bA ?_ _)); refine blk_put (cs := #[.bool ((bt a0 0) == 129), .int .u8 (bt a0 1), .int .u16 (IntKind.u16.wrap (t132)), .int .u32 0, .int .u64 0, .string (⟨#[]⟩ : ByteArray), .string (⟨#[]⟩ : ByteArray), .string (⟨#[]⟩ : ByteArray)]) ?_ 3 _ rfl; (with_reducible repeat (first | refine bN ?_ _ | refine bD ?_ | refine bA ?_ _)); refine blk_put (cs := #[.bool ((bt a0 0) == 129), .int .u8 (bt a0 1), .int .u16 0, .int .u32 0, .int .u64 0, .string (⟨#[]⟩ : ByteArray), .string (⟨#[]⟩ : ByteArray), .string (⟨#[]⟩ : ByteArray)]) ?_ 2 _ rfl; (with_reducible repeat (first | refine bN ?_ _ | refine bD ?_ | refine bA ?_ _)); refine blk_put (cs := #[.bool ((bt a0 0) == 129), .int .u8 0, .int .u16 0, .int .u32 0, .int .u64 0, .string (⟨#[]⟩ : ByteArray), .string (⟨#[]⟩ : ByteArray), .string (⟨#[]⟩ : ByteArray)]) ?_ 1 _ rfl; (with_reducible repeat (first | refine bN ?_ _ | refine bD ?_ | refine bA ?_ _)); refine blk_put (cs := #[.bool false, .int .u8 0, .int .u16 0, .int .u32 0, .int .u64 0, .string (⟨#[]⟩ : ByteArray), .string (⟨#[]⟩ : ByteArray), .string (⟨#[]⟩ : ByteArray)]) ?_ 0 _ (by first | rfl | (rw [show (bt a0 0 == 129) = true by (first | assumption | exact beq_iff_eq.mpr (by assumption))]; rfl) | (rw [show (bt a0 0 == 129) = false by (first | assumption | exact beq_eq_false_iff_ne.mpr (by assumption))]; rfl)); (with_reducible repeat (first | refine bN ?_ _ | refine bD ?_ | refine bA ?_ _)); refine blk_far ?_ NB129_135.out _; (with_reducible repeat (first | refine bN ?_ _ | refine bD ?_ | refine bA ?_ _)); refine blk_far ?_ NB129_135.out _; (with_reducible repeat (first | refine bN ?_ _ | refine bD ?_ | refine bA ?_ _)); refine blk_far ?_ NB129_135.out _; (with_reducible repeat (first | refine bN ?_ _ | refine bD ?_ | refine bA ?_ _)); exact BK129.out) Try.underlying26 rfl (by kernel_rfl)) rfl ?_
                                 exact ⟨by first | rfl | (simp [errW_none, errW_some] <;> rfl) | (simp only [← hji72, ← hji76]; first | rfl | (simp [errW_none, errW_some] <;> rfl)) | (simp [*, errW_none, errW_some] <;> rfl), bH HB.out⟩
                                ·rw [if_neg c79] at H; exact absurd H (by simp)
                               ·rw [if_neg c78] at H; exact absurd H (by simp)
                              ·rw [if_neg c77] at H; exact absurd H (by simp)
                             ·rw [if_neg c75] at H; exact absurd H (by simp)
                            ·rw [if_neg c74] at H; exact absurd H (by simp)
                           ·rw [if_neg c73] at H; exact absurd H (by simp)
                          ·rw [if_neg c71] at H; exact absurd H (by simp)
                         ·rw [if_neg c70] at H; exact absurd H (by simp)
                 ·rw [if_neg c32] at H; exact absurd H (by simp)
                ·rw [if_neg c31] at H; exact absurd H (by simp)
               ·rw [if_neg c29] at H; exact absurd H (by simp)
              ·rw [if_neg c28] at H; exact absurd H (by simp)
             ·rw [if_neg c26] at H; exact absurd H (by simp)
            ·rw [if_neg c25] at H; exact absurd H (by simp)
           ·rw [if_neg c23] at H; exact absurd H (by simp)
          ·rw [if_neg c21] at H; exact absurd H (by simp)
         ·rw [if_neg c19] at H; exact absurd H (by simp)
        ·rw [if_neg c18] at H; exact absurd H (by simp)
       ·rw [if_neg c16] at H; exact absurd H (by simp)
      ·rw [if_neg c14] at H; exact absurd H (by simp)
     ·rw [if_neg c13] at H; exact absurd H (by simp)

end Go.Proofs.Ytdepkgikdmlgiaa.P
