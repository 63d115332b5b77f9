/- Lean functions for the Go functions that the laws of this seat use, and the proofs that the Go code computes them; conditions: the readings that each theorem names. Written by a program. -/
import Derived.Test.YtdepkgikdmlgiaaPx0
import Derived.Test.YtdepkgikdmlgiaaPx3
import Derived.Test.YtdepkgikdmlgiaaPx7
import Derived.Test.YtdepkgikdmlgiaaShort
namespace Go.Proofs.Ytdepkgikdmlgiaa.P
open Go.RowKit Go.Proofs.YtdepkgikdmlgiaaW.PrintWords Go.Proofs.YtdepkgikdmlgiaaW.PrintLast Go.Proofs.YtdepkgikdmlgiaaW.PrintMore
set_option linter.unusedVariables false
set_option linter.unusedSimpArgs false

/-! ### frame_Unpack: function 15 -/
theorem frame_Unpack.xsz {x hi : Int} {s : ByteArray} {lo : Nat} (h : (x ≤ ((s.extract lo hi.toNat).size : Int)) = True) (h2 : (hi ≤ (s.size : Int)) = True) : (x ≤ ((hi.toNat - lo : Nat) : Int)) = True := by
  have h := of_eq_true h
  have h2 := of_eq_true h2
  rw [ByteArray.size_extract] at h
  exact eq_true (by omega)
theorem frame_Unpack.ssz {hi : Int} {s : ByteArray} {lo : Nat} (h2 : (hi ≤ (s.size : Int)) = True) : (s.extract lo hi.toNat).size = hi.toNat - lo := by
  have h2 := of_eq_true h2
  rw [ByteArray.size_extract]
  omega
set_option maxHeartbeats 8000000 in
set_option maxRecDepth 100000 in
theorem frame_Unpack.calls (k : Nat) (a0 : ByteArray) (r1 : Bool) (r2 : Int) (r3 : Int) (r4 : Int) (r5 : Int) (r6 : ByteArray) (r7 : ByteArray) (r8 : ByteArray) (r9 : Int) (r10 : Int) (w : World) (h : frame_Unpack.f k a0 = some (r1, r2, r3, r4, r5, r6, r7, r8, r9, r10)) :
  Calls Try.prog 15 #[.string a0] w fun e w' => e = .returned (.tuple #[.agg #[.bool r1, .int .u8 r2, .int .u16 r3, .int .u32 r4, .int .u64 r5, .string r6, .string r7, .string r8], .int .i64 r9, .int .i64 r10]) ∧ Below w.heap.size w w' := by
 have hu31 := Try.underlying31; have HB := Aside0.mk (Below.refl w.heap.size w); have H : (if a0.toList = ([] : List UInt8) then (frame_Unpack.j0 k a0 false) else (if 0 < (a0.size : Int) then (if (bt a0 0) = 128 then (frame_Unpack.j0 k a0 false) else (frame_Unpack.j0 k a0 ((bt a0 0) != 129))) else (none))) = some (r1, r2, r3, r4, r5, r6, r7, r8, r9, r10) := h; clear h; have HC2 := Aside0.mk H; clear H; go_enter Try.func15, Try.ntmps15
 go_upto_region 1 with (first | ((with_reducible refine gate_dst (N := 2) rfl ?_); refine bE 2 #[.bool false, .int .u8 0, .int .u16 0, .int .u32 0, .int .u64 0, .string (⟨#[]⟩ : ByteArray), .string (⟨#[]⟩ : ByteArray), .string (⟨#[]⟩ : ByteArray)] 31 rfl rfl ?_; intro gb121 hg w3 hbox hb; have BK121 := rM hbox; have GW121 := rG HB hg; replace HB := rS HB hb; have GE121 := GW121; clear hb hbox hg))
 (try simp only [Act.put, sA, sB, sC])
 go_cut [22] (fun v22 wc => ∃ (kq : Nat) (x22_1 : Bool), v22 = .bool x22_1 ∧ Aside0 (frame_Unpack.j0 kq a0 x22_1 = some (r1, r2, r3, r4, r5, r6, r7, r8, r9, r10)) ∧ Aside0 (kq ≤ k) ∧ Aside0 (wc.heap[gb121]? = some (.cells #[.bool false, .int .u8 0, .int .u16 0, .int .u32 0, .int .u64 0, .string (⟨#[]⟩ : ByteArray), .string (⟨#[]⟩ : ByteArray), .string (⟨#[]⟩ : ByteArray)] 31 (0, 0))) ∧ Aside0 (Below w.heap.size w wc))
 case first =>
  have H := HC2.out; clear HC2
  by_cases c4 : a0.toList = ([] : List UInt8)
  ·rw [if_pos c4] at H; have c4b0 : (a0.toList == ([] : List UInt8)) = true := beq_iff_eq.mpr c4; have c4b1 : (a0.toList != ([] : List UInt8)) = false := bne_eq_false_iff_eq.mpr c4; clear c4
   (first | rw [c4b0] | (simp only [i64_w, i32_w]; rw [c4b0]) | skip)
   have H' := Aside0.mk H; clear H; go_wp2
   go_meet
   case rel => exact ⟨_, (false), (by first | rfl | (simp; done) | (simp [*]; done)), H', ⟨by first | omega | exact Nat.le_refl _⟩, ⟨bK BK121.out⟩, ⟨bH HB.out⟩⟩
  ·rw [if_neg c4] at H; have c4b0 : (a0.toList == ([] : List UInt8)) = false := beq_eq_false_iff_ne.mpr c4; have c4b1 : (a0.toList != ([] : List UInt8)) = true := bne_iff_ne.mpr c4
   (first | rw [c4b0] | (simp only [i64_w, i32_w]; rw [c4b0]) | skip)
   by_cases c5 : 0 < (a0.size : Int)
   ·rw [if_pos c5] at H; have c5b0 : decide (0 < (a0.size : Int)) = true := decide_eq_true c5; have c5b1 : decide (0 < a0.size) = true := decide_eq_true (by omega); clear c5
    by_cases c7 : (bt a0 0) = 128
    ·rw [if_pos c7] at H; have c7b0 : ((bt a0 0) == 128) = true := beq_iff_eq.mpr c7; have c7b1 : ((bt a0 0) != 128) = false := bne_eq_false_iff_eq.mpr c7; clear c7; have H' := Aside0.mk H; clear H; have p6 : 0 ≤ (0 : Int) := (by omega); have q6 : 0 < a0.size := (by have : (0 : Int) < (a0.size : Int) := of_decide_eq_true (by first | (with_reducible assumption) | assumption); omega)
     have hx6 : ∀ h : 0 < a0.size, ((a0[0]'h).toNat : Int) = bt a0 0 := bt_at a0 0
     clear p6; have qi6 : (0 < (a0.size : Int)) = True := eq_true (of_decide_eq_true (by first | (with_reducible assumption) | assumption)); replace q6 := eq_true q6; go_wp2
     go_meet
     case rel => exact ⟨_, (false), (by first | rfl | (simp; done) | (simp [*]; done)), H', ⟨by first | omega | exact Nat.le_refl _⟩, ⟨bK BK121.out⟩, ⟨bH HB.out⟩⟩
    ·rw [if_neg c7] at H; have c7b0 : ((bt a0 0) == 128) = false := beq_eq_false_iff_ne.mpr c7; have c7b1 : ((bt a0 0) != 128) = true := bne_iff_ne.mpr c7; have H' := Aside0.mk H; clear H; have p6 : 0 ≤ (0 : Int) := (by omega); have q6 : 0 < a0.size := (by have : (0 : Int) < (a0.size : Int) := of_decide_eq_true (by first | (with_reducible assumption) | assumption); omega)
     have hx6 : ∀ h : 0 < a0.size, ((a0[0]'h).toNat : Int) = bt a0 0 := bt_at a0 0
     clear p6; have qi6 : (0 < (a0.size : Int)) = True := eq_true (of_decide_eq_true (by first | (with_reducible assumption) | assumption)); replace q6 := eq_true q6; have p8 : 0 ≤ (0 : Int) := (by omega); have q8 : 0 < a0.size := (by have : (0 : Int) < (a0.size : Int) := of_decide_eq_true (by first | (with_reducible assumption) | assumption); omega)
     have hx8 : ∀ h : 0 < a0.size, ((a0[0]'h).toNat : Int) = bt a0 0 := bt_at a0 0
     clear p8; have qi8 : (0 < (a0.size : Int)) = True := eq_true (of_decide_eq_true (by first | (with_reducible assumption) | assumption)); replace q8 := eq_true q8; go_wp2
     go_meet
     case rel => exact ⟨_, (((bt a0 0) != 129)), (by first | rfl | (simp; done) | (simp [*]; done)), H', ⟨by first | omega | exact Nat.le_refl _⟩, ⟨bK BK121.out⟩, ⟨bH HB.out⟩⟩
   ·rw [if_neg c5] at H; exact absurd H (by simp)
 case rest =>
  clear HC2; (try clear c4); (try clear c4b0); (try clear c4b1); (try clear c5); (try clear c5b0); (try clear c5b1); (try clear p6); (try clear q6); (try clear hx6); (try clear qi6); (try clear c7); (try clear c7b0); (try clear c7b1); (try clear p8); (try clear q8); (try clear hx8); (try clear qi8); (try clear p6); (try clear p8); (try clear q6); (try clear q8); obtain ⟨kq, x22_1, rfl, HA, HJ1, BK121, HB⟩ := hcut; cases kq with
  | zero => exact absurd HA.out (by simp [frame_Unpack.j0])
  | succ kj1 =>
   have H := HA.out; clear HA; simp only [frame_Unpack.j0] at H
   by_cases c9 : x22_1 = true
   ·subst c9; rw [if_pos rfl] at H; simp only [Option.some.injEq, Prod.mk.injEq] at H; obtain ⟨rfl, rfl, rfl, rfl, rfl, rfl, rfl, rfl, rfl, rfl⟩ := H; obtain ⟨hcz10, hfz10⟩ := d8 BK121; go_wp2; refine bodyPost_ret (results_ctt rfl _ _ gb121 31 #[.bool false, .int .u8 0, .int .u16 0, .int .u32 0, .int .u64 0, .string (⟨#[]⟩ : ByteArray), .string (⟨#[]⟩ : ByteArray), .string (⟨#[]⟩ : ByteArray)] (0, 0) _ rfl (by (with_reducible repeat (first | refine bN ?_ _ | refine bD ?_ | refine bA ?_ _)); refine blk_put (cs := #[.bool false, .int .u8 0, .int .u16 0, .int .u32 0, .int .u64 0, .string (⟨#[]⟩ : ByteArray), .string (⟨#[]⟩ : ByteArray), .string (⟨#[]⟩ : ByteArray)]) ?_ 7 _ (by first | rfl | (rw [frame_Unpack.ssz (s := a0) (lo := 24) (hi := wrap64 (24 + wrap64 t127)) (by assumption)]; rfl)); (with_reducible repeat (first | refine bN ?_ _ | refine bD ?_ | refine bA ?_ _)); refine blk_put (cs := #[.bool false, .int .u8 0, .int .u16 0, .int .u32 0, .int .u64 0, .string (⟨#[]⟩ : ByteArray), .string (⟨#[]⟩ : ByteArray), .string (⟨#[]⟩ : ByteArray)]) ?_ 6 _ rfl; (with_reducible repeat (first | refine bN ?_ _ | refine bD ?_ | refine bA ?_ _)); refine blk_put (cs := #[.bool false, .int .u8 0, .int .u16 0, .int .u32 0, .int .u64 0, .string (⟨#[]⟩ : ByteArray), .string (⟨#[]⟩ : ByteArray), .string (⟨#[]⟩ : ByteArray)]) ?_ 5 _ rfl; (with_reducible repeat (first | refine bN ?_ _ | refine bD ?_ | refine bA ?_ _)); refine blk_put (cs := #[.bool false, .int .u8 0, .int .u16 0, .int .u32 0, .int .u64 0, .string (⟨#[]⟩ : ByteArray), .string (⟨#[]⟩ : ByteArray), .string (⟨#[]⟩ : ByteArray)]) ?_ 4 _ rfl; (with_reducible repeat (first | refine bN ?_ _ | refine bD ?_ | refine bA ?_ _)); refine blk_put (cs := #[.bool false, .int .u8 0, .int .u16 0, .int .u32 0, .int .u64 0, .string (⟨#[]⟩ : ByteArray), .string (⟨#[]⟩ : ByteArray), .string (⟨#[]⟩ : ByteArray)]) ?_ 3 _ rfl; (with_reducible repeat (first | refine bN ?_ _ | refine bD ?_ | refine bA ?_ _)); refine blk_put (cs := #[.bool false, .int .u8 0, .int .u16 0, .int .u32 0, .int .u64 0, .string (⟨#[]⟩ : ByteArray), .string (⟨#[]⟩ : ByteArray), .string (⟨#[]⟩ : ByteArray)]) ?_ 2 _ rfl; (with_reducible repeat (first | refine bN ?_ _ | refine bD ?_ | refine bA ?_ _)); refine blk_put (cs := #[.bool false, .int .u8 0, .int .u16 0, .int .u32 0, .int .u64 0, .string (⟨#[]⟩ : ByteArray), .string (⟨#[]⟩ : ByteArray), .string (⟨#[]⟩ : ByteArray)]) ?_ 1 _ rfl; (with_reducible repeat (first | refine bN ?_ _ | refine bD ?_ | refine bA ?_ _)); refine blk_put (cs := #[.bool false, .int .u8 0, .int .u16 0, .int .u32 0, .int .u64 0, .string (⟨#[]⟩ : ByteArray), .string (⟨#[]⟩ : ByteArray), .string (⟨#[]⟩ : ByteArray)]) ?_ 0 _ rfl; (with_reducible repeat (first | refine bN ?_ _ | refine bD ?_ | refine bA ?_ _)); exact BK121.out) Try.underlying31 rfl (by kernel_rfl)) rfl ?_
    exact ⟨xR, bH HB.out⟩
   ·replace c9 := Bool.eq_false_iff.mpr c9; subst c9; rw [if_neg (show ¬ (false = true) by decide)] at H
    by_cases c11 : (a0.size : Int) < 24
    ·rw [if_pos c11] at H; have c11b0 : decide ((a0.size : Int) < 24) = true := decide_eq_true c11; have c11b1 : decide (a0.size < 24) = true := decide_eq_true (by omega); clear c11; simp only [Option.some.injEq, Prod.mk.injEq] at H; obtain ⟨rfl, rfl, rfl, rfl, rfl, rfl, rfl, rfl, rfl, rfl⟩ := H; obtain ⟨hcz12, hfz12⟩ := d8 BK121; go_wp2; refine bodyPost_ret (results_ctt rfl _ _ gb121 31 #[.bool false, .int .u8 0, .int .u16 0, .int .u32 0, .int .u64 0, .string (⟨#[]⟩ : ByteArray), .string (⟨#[]⟩ : ByteArray), .string (⟨#[]⟩ : ByteArray)] (0, 0) _ rfl (by (with_reducible repeat (first | refine bN ?_ _ | refine bD ?_ | refine bA ?_ _)); refine blk_put (cs := #[.bool false, .int .u8 0, .int .u16 0, .int .u32 0, .int .u64 0, .string (⟨#[]⟩ : ByteArray), .string (⟨#[]⟩ : ByteArray), .string (⟨#[]⟩ : ByteArray)]) ?_ 7 _ (by first | rfl | (rw [frame_Unpack.ssz (s := a0) (lo := 24) (hi := wrap64 (24 + wrap64 t127)) (by assumption)]; rfl)); (with_reducible repeat (first | refine bN ?_ _ | refine bD ?_ | refine bA ?_ _)); refine blk_put (cs := #[.bool false, .int .u8 0, .int .u16 0, .int .u32 0, .int .u64 0, .string (⟨#[]⟩ : ByteArray), .string (⟨#[]⟩ : ByteArray), .string (⟨#[]⟩ : ByteArray)]) ?_ 6 _ rfl; (with_reducible repeat (first | refine bN ?_ _ | refine bD ?_ | refine bA ?_ _)); refine blk_put (cs := #[.bool false, .int .u8 0, .int .u16 0, .int .u32 0, .int .u64 0, .string (⟨#[]⟩ : ByteArray), .string (⟨#[]⟩ : ByteArray), .string (⟨#[]⟩ : ByteArray)]) ?_ 5 _ rfl; (with_reducible repeat (first | refine bN ?_ _ | refine bD ?_ | refine bA ?_ _)); refine blk_put (cs := #[.bool false, .int .u8 0, .int .u16 0, .int .u32 0, .int .u64 0, .string (⟨#[]⟩ : ByteArray), .string (⟨#[]⟩ : ByteArray), .string (⟨#[]⟩ : ByteArray)]) ?_ 4 _ rfl; (with_reducible repeat (first | refine bN ?_ _ | refine bD ?_ | refine bA ?_ _)); refine blk_put (cs := #[.bool false, .int .u8 0, .int .u16 0, .int .u32 0, .int .u64 0, .string (⟨#[]⟩ : ByteArray), .string (⟨#[]⟩ : ByteArray), .string (⟨#[]⟩ : ByteArray)]) ?_ 3 _ rfl; (with_reducible repeat (first | refine bN ?_ _ | refine bD ?_ | refine bA ?_ _)); refine blk_put (cs := #[.bool false, .int .u8 0, .int .u16 0, .int .u32 0, .int .u64 0, .string (⟨#[]⟩ : ByteArray), .string (⟨#[]⟩ : ByteArray), .string (⟨#[]⟩ : ByteArray)]) ?_ 2 _ rfl; (with_reducible repeat (first | refine bN ?_ _ | refine bD ?_ | refine bA ?_ _)); refine blk_put (cs := #[.bool false, .int .u8 0, .int .u16 0, .int .u32 0, .int .u64 0, .string (⟨#[]⟩ : ByteArray), .string (⟨#[]⟩ : ByteArray), .string (⟨#[]⟩ : ByteArray)]) ?_ 1 _ rfl; (with_reducible repeat (first | refine bN ?_ _ | refine bD ?_ | refine bA ?_ _)); refine blk_put (cs := #[.bool false, .int .u8 0, .int .u16 0, .int .u32 0, .int .u64 0, .string (⟨#[]⟩ : ByteArray), .string (⟨#[]⟩ : ByteArray), .string (⟨#[]⟩ : ByteArray)]) ?_ 0 _ rfl; (with_reducible repeat (first | refine bN ?_ _ | refine bD ?_ | refine bA ?_ _)); exact BK121.out) Try.underlying31 rfl (by kernel_rfl)) rfl ?_
     exact ⟨xR, bH HB.out⟩
    ·rw [if_neg c11] at H; have c11b0 : decide ((a0.size : Int) < 24) = false := decide_eq_false c11; have c11b1 : decide (a0.size < 24) = false := decide_eq_false (by omega); clear c11
     by_cases c13 : 0 < (a0.size : Int)
     ·rw [if_pos c13] at H; have c13b0 : decide (0 < (a0.size : Int)) = true := decide_eq_true c13; have c13b1 : decide (0 < a0.size) = true := decide_eq_true (by omega); clear c13
      by_cases c15 : 1 < (a0.size : Int)
      ·rw [if_pos c15] at H; have c15b0 : decide (1 < (a0.size : Int)) = true := decide_eq_true c15; have c15b1 : decide (1 < a0.size) = true := decide_eq_true (by omega); clear c15
       by_cases c17 : 6 ≤ 8
       ·rw [if_pos c17] at H; have c17b0 := eq_true c17; have c17b1 : decide (6 ≤ 8) = true := decide_eq_true c17; clear c17
        by_cases c18 : 8 ≤ (a0.size : Int)
        ·rw [if_pos c18] at H; have c18b0 := eq_true c18; have c18b1 : decide (8 ≤ (a0.size : Int)) = true := decide_eq_true c18; clear c18; replace H := Option.bind_eq_some_iff.mp H; obtain ⟨t122, A190, H⟩ := H; (try dsimp only at H); have A19 := Aside0.mk A190; clear A190
         by_cases c20 : 12 ≤ 16
         ·rw [if_pos c20] at H; have c20b0 := eq_true c20; have c20b1 : decide (12 ≤ 16) = true := decide_eq_true c20; clear c20
          by_cases c21 : 16 ≤ (a0.size : Int)
          ·rw [if_pos c21] at H; have c21b0 := eq_true c21; have c21b1 : decide (16 ≤ (a0.size : Int)) = true := decide_eq_true c21; clear c21; replace H := Option.bind_eq_some_iff.mp H; obtain ⟨t123, A220, H⟩ := H; (try dsimp only at H); have A22 := Aside0.mk A220; clear A220
           by_cases c23 : 16 ≤ 24
           ·rw [if_pos c23] at H; have c23b0 := eq_true c23; have c23b1 : decide (16 ≤ 24) = true := decide_eq_true c23; clear c23
            by_cases c24 : 24 ≤ (a0.size : Int)
            ·rw [if_pos c24] at H; have c24b0 := eq_true c24; have c24b1 : decide (24 ≤ (a0.size : Int)) = true := decide_eq_true c24; clear c24; replace H := Option.bind_eq_some_iff.mp H; obtain ⟨t124, A250, H⟩ := H; (try dsimp only at H); have A25 := Aside0.mk A250; clear A250
             by_cases c26 : 2 ≤ 4
             ·rw [if_pos c26] at H; have c26b0 := eq_true c26; have c26b1 : decide (2 ≤ 4) = true := decide_eq_true c26; clear c26
              by_cases c27 : 4 ≤ (a0.size : Int)
              ·rw [if_pos c27] at H; have c27b0 := eq_true c27; have c27b1 : decide (4 ≤ (a0.size : Int)) = true := decide_eq_true c27; clear c27; replace H := Option.bind_eq_some_iff.mp H; obtain ⟨t126, A280, H⟩ := H; (try dsimp only at H); have A28 := Aside0.mk A280; clear A280
               by_cases c29 : 4 < (a0.size : Int)
               ·rw [if_pos c29] at H; have c29b0 : decide (4 < (a0.size : Int)) = true := decide_eq_true c29; have c29b1 : decide (4 < a0.size) = true := decide_eq_true (by omega); clear c29
                by_cases c31 : 8 ≤ 12
                ·rw [if_pos c31] at H; have c31b0 := eq_true c31; have c31b1 : decide (8 ≤ 12) = true := decide_eq_true c31; clear c31
                 by_cases c32 : 12 ≤ (a0.size : Int)
                 ·rw [if_pos c32] at H; have c32b0 := eq_true c32; have c32b1 : decide (12 ≤ (a0.size : Int)) = true := decide_eq_true c32; clear c32; replace H := Option.bind_eq_some_iff.mp H; obtain ⟨t127, A330, H⟩ := H; (try dsimp only at H); have A33 := Aside0.mk A330; clear A330
                  by_cases c34 : 5 < (a0.size : Int)
                  ·rw [if_pos c34] at H; have c34b0 : decide (5 < (a0.size : Int)) = true := decide_eq_true c34; have c34b1 : decide (5 < a0.size) = true := decide_eq_true (by omega); clear c34; have HC36 := Aside0.mk H; clear H
                   try go_wp2
                   replace BK121 := Aside0.mk (bD BK121.out); replace HB := Aside0.mk (eD HB.out); have p14 : 0 ≤ (0 : Int) := (by omega); have q14 : 0 < a0.size := (by have : (0 : Int) < (a0.size : Int) := of_decide_eq_true (by first | (with_reducible assumption) | assumption); omega)
                   have hx14 : ∀ h : 0 < a0.size, ((a0[0]'h).toNat : Int) = bt a0 0 := bt_at a0 0
                   clear p14; have qi14 : (0 < (a0.size : Int)) = True := eq_true (of_decide_eq_true (by first | (with_reducible assumption) | assumption)); replace q14 := eq_true q14; have p16 : 0 ≤ (1 : Int) := (by omega); have q16 : 1 < a0.size := (by have : (1 : Int) < (a0.size : Int) := of_decide_eq_true (by first | (with_reducible assumption) | assumption); omega)
                   have hx16 : ∀ h : 1 < a0.size, ((a0[1]'h).toNat : Int) = bt a0 1 := bt_at a0 1
                   clear p16; have qi16 : (1 < (a0.size : Int)) = True := eq_true (of_decide_eq_true (by first | (with_reducible assumption) | assumption)); replace q16 := eq_true q16; refine start_ (n := 19) (S := fun w' => True) (ds := []) #[false, false, false, false, false, false, false, false, false, false, false, false, false, false, false, false, false, false, false] (by kernel_rfl) rfl rfl trivial (fun hHeld => ?_); refine with_tabW frame_Unpack.tab5 frame_Unpack.bits5 (fun HT_ HW_ => ?_)
                   generalize wc.drew = w37 at BK121 HB hHeld ⊢; refine pU HT_ 0 (some 28) ?_ #[true, false, false, false, false, false, false, false, false, false, false, false, false, false, false, false, false, false, false] rfl rfl ?_ ?_ ?_ ?_
                   rotate_left
                   ·intro w'
                    go_simp
                    with_reducible rfl
                   rotate_left
                   ·simp only [Act.put, sA, sB, sC, i64_w, i32_w]
                    rfl
                   refine pU HT_ 3 (some 31) ?_ #[true, false, false, true, false, false, false, false, false, false, false, false, false, false, false, false, false, false, false] rfl rfl ?_ ?_ ?_ ?_
                   rotate_left
                   ·intro w'
                    go_simp
                    with_reducible rfl
                   rotate_left
                   ·simp only [Act.put, sA, sB, sC, i64_w, i32_w]
                    rfl
                   refine pU HT_ 5 (some 33) ?_ #[true, false, false, true, false, true, false, false, false, false, false, false, false, false, false, false, false, false, false] rfl rfl ?_ ?_ ?_ ?_
                   rotate_left
                   ·intro w'
                    go_simp
                    with_reducible rfl
                   rotate_left
                   ·simp only [Act.put, sA, sB, sC, i64_w, i32_w]
                    rfl
                   refine pU HT_ 6 (some 34) ?_ #[true, false, false, true, false, true, true, false, false, false, false, false, false, false, false, false, false, false, false] rfl rfl ?_ ?_ ?_ ?_
                   rotate_left
                   ·intro w'
                    go_simp
                    with_reducible rfl
                   rotate_left
                   ·simp only [Act.put, sA, sB, sC, i64_w, i32_w]
                    rfl
                   refine pU HT_ 9 (some 37) ?_ #[true, false, false, true, false, true, true, false, false, true, false, false, false, false, false, false, false, false, false] rfl rfl ?_ ?_ ?_ ?_
                   rotate_left
                   ·intro w'
                    go_simp
                    with_reducible rfl
                   rotate_left
                   ·simp only [Act.put, sA, sB, sC, i64_w, i32_w]
                    rfl
                   refine pU HT_ 10 (some 38) ?_ #[true, false, false, true, false, true, true, false, false, true, true, false, false, false, false, false, false, false, false] rfl rfl ?_ ?_ ?_ ?_
                   rotate_left
                   ·intro w'
                    go_simp
                    with_reducible rfl
                   rotate_left
                   ·simp only [Act.put, sA, sB, sC, i64_w, i32_w]
                    rfl
                   refine pU HT_ 13 (some 41) ?_ #[true, false, false, true, false, true, true, false, false, true, true, false, false, true, false, false, false, false, false] rfl rfl ?_ ?_ ?_ ?_
                   rotate_left
                   ·intro w'
                    go_simp
                    with_reducible rfl
                   rotate_left
                   ·simp only [Act.put, sA, sB, sC, i64_w, i32_w]
                    rfl
                   refine pU HT_ 14 (some 42) ?_ #[true, false, false, true, false, true, true, false, false, true, true, false, false, true, true, false, false, false, false] rfl rfl ?_ ?_ ?_ ?_
                   rotate_left
                   ·intro w'
                    go_simp
                    with_reducible rfl
                   rotate_left
                   ·simp only [Act.put, sA, sB, sC, i64_w, i32_w]
                    rfl
                   refine tU HT_ HW_ hHeld 1 (some 29) ?_ #[true, true, false, true, false, true, true, false, false, true, true, false, false, true, true, false, false, false, false] rfl rfl ?_ ?_ ?_ ?_
                   rotate_left
                   ·intro w' _
                    go_simp
                    with_reducible rfl
                   rotate_left
                   ·simp only [Act.put, sA, sB, sC, i64_w, i32_w]
                    rfl
                   refine pU HT_ 2 (some 30) ?_ #[true, true, true, true, false, true, true, false, false, true, true, false, false, true, true, false, false, false, false] rfl rfl ?_ ?_ ?_ ?_
                   rotate_left
                   ·intro w'
                    go_simp
                    with_reducible rfl
                   rotate_left
                   ·simp only [Act.put, sA, sB, sC, i64_w, i32_w]
                    rfl
                   refine tU HT_ HW_ hHeld 4 (some 32) ?_ #[true, true, true, true, true, true, true, false, false, true, true, false, false, true, true, false, false, false, false] rfl rfl ?_ ?_ ?_ ?_
                   rotate_left
                   ·intro w' _
                    go_simp
                    with_reducible rfl
                   rotate_left
                   ·simp only [Act.put, sA, sB, sC, i64_w, i32_w]
                    rfl
                   refine join_ (σ := Nat) 1 #[true, true, true, true, true, true, true, true, true, true, true, true, true, true, true, true, true, true, false] (fun s_ => [(35, .int .u64 t122), (39, .int .u64 t123), (43, .int .u64 t124), (5, .pointer (some ⟨s_, 0, none⟩)), (36, .int .u16 (IntKind.u16.wrap (t122))), (40, .int .u32 ((t123) % 4294967296)), (44, .agg #[.bool ((bt a0 0) == 129), .int .u8 (bt a0 1), .int .u16 (IntKind.u16.wrap (t122)), .int .u32 ((t123) % 4294967296), .int .u64 t124, .string (⟨#[]⟩ : ByteArray), .string (⟨#[]⟩ : ByteArray), .string (⟨#[]⟩ : ByteArray)])]) (fun s_ w' => (w'.heap[gb121]? = some (.cells #[.bool false, .int .u8 0, .int .u16 0, .int .u32 0, .int .u64 0, .string (⟨#[]⟩ : ByteArray), .string (⟨#[]⟩ : ByteArray), .string (⟨#[]⟩ : ByteArray)] 31 (0, 0))) ∧ (w'.heap[s_]? = some (.cells #[.bool false, .int .u8 0, .int .u16 0, .int .u32 0, .int .u64 0, .string (⟨#[]⟩ : ByteArray), .string (⟨#[]⟩ : ByteArray), .string (⟨#[]⟩ : ByteArray)] 31 (0, 0))) ∧ (w.heap.size ≤ s_) ∧ (w.heap.size ≤ s_) ∧ (gb121 ≠ s_) ∧ (s_ ≠ gb121) ∧ (Below w.heap.size w w')) ?_ ?_
                   rotate_left
                   ·intro hCont
                    refine two_ (i := 7) (j := 17) (Ni := some 35) (Nj := some 5) #[true, true, true, true, true, true, true, true, false, true, true, false, false, true, true, false, false, false, false] #[true, true, true, true, true, true, true, false, false, true, true, false, false, true, true, false, false, true, false] rfl rfl rfl rfl (two_of HT_.out (by kernel_rfl)) (by decide) (by decide) (fun K hK => ?_) (fun K hK => ?_)
                    ·skip
                     refine goes_ Try.func41 (by kernel_rfl) rfl #[.string (a0.extract 6 8)] (by rfl) rfl rfl (by (try simp only [List.map_toArray, List.map_cons, List.map_nil]); first | done | rfl | (simp only [List.length_drop, List.length_take]; rfl)) ?_
                     with_reducible refine (frame_take.calls kj1 (a0.extract 6 8) t122 _ A19.out).mono ?_
                     rintro e w' ⟨rfl, ⟨nd, rfl⟩⟩
                     refine ⟨_, rfl, ?_⟩
                     refine hK.out _ _ trivial (fun hHeld => ?_)
                     clear hK K; refine norm_ (a' := ?_) ?_ ?_
                     rotate_left
                     ·show Act.put _ (some 35) _ = _
                      simp only [Act.put, sA, sB, sC, i64_w, i32_w]
                      rfl
                     refine pU HT_ 8 (some 36) ?_ #[true, true, true, true, true, true, true, true, true, true, true, false, false, true, true, false, false, false, false] rfl rfl ?_ ?_ ?_ ?_
                     rotate_left
                     ·intro w'
                      go_simp
                      with_reducible rfl
                     rotate_left
                     ·simp only [Act.put, sA, sB, sC, i64_w, i32_w]
                      rfl
                     refine two_ (i := 11) (j := 17) (Ni := some 39) (Nj := some 5) #[true, true, true, true, true, true, true, true, true, true, true, true, false, true, true, false, false, false, false] #[true, true, true, true, true, true, true, true, true, true, true, false, false, true, true, false, false, true, false] rfl rfl rfl rfl (two_of HT_.out (by kernel_rfl)) (by decide) (by decide) (fun K hK => ?_) (fun K hK => ?_)
                     ·skip
                      refine goes_ Try.func41 (by kernel_rfl) rfl #[.string (a0.extract 12 16)] (by rfl) rfl rfl (by (try simp only [List.map_toArray, List.map_cons, List.map_nil]); first | done | rfl | (simp only [List.length_drop, List.length_take]; rfl)) ?_
                      with_reducible refine (frame_take.calls kj1 (a0.extract 12 16) t123 _ A22.out).mono ?_
                      rintro e w' ⟨rfl, ⟨nd, rfl⟩⟩
                      refine ⟨_, rfl, ?_⟩
                      refine hK.out _ _ trivial (fun hHeld => ?_)
                      clear hK K; refine norm_ (a' := ?_) ?_ ?_
                      rotate_left
                      ·show Act.put _ (some 39) _ = _
                       simp only [Act.put, sA, sB, sC, i64_w, i32_w]
                       rfl
                      refine pU HT_ 12 (some 40) ?_ #[true, true, true, true, true, true, true, true, true, true, true, true, true, true, true, false, false, false, false] rfl rfl ?_ ?_ ?_ ?_
                      rotate_left
                      ·intro w'
                       go_simp
                       with_reducible rfl
                      rotate_left
                      ·simp only [Act.put, sA, sB, sC, i64_w, i32_w]
                       rfl
                      refine two_ (i := 15) (j := 17) (Ni := some 43) (Nj := some 5) #[true, true, true, true, true, true, true, true, true, true, true, true, true, true, true, true, false, false, false] #[true, true, true, true, true, true, true, true, true, true, true, true, true, true, true, false, false, true, false] rfl rfl rfl rfl (two_of HT_.out (by kernel_rfl)) (by decide) (by decide) (fun K hK => ?_) (fun K hK => ?_)
                      ·skip
                       refine goes_ Try.func41 (by kernel_rfl) rfl #[.string (a0.extract 16 24)] (by rfl) rfl rfl (by (try simp only [List.map_toArray, List.map_cons, List.map_nil]); first | done | rfl | (simp only [List.length_drop, List.length_take]; rfl)) ?_
                       with_reducible refine (frame_take.calls kj1 (a0.extract 16 24) t124 _ A25.out).mono ?_
                       rintro e w' ⟨rfl, ⟨nd, rfl⟩⟩
                       refine ⟨_, rfl, ?_⟩
                       refine hK.out _ _ trivial (fun hHeld => ?_)
                       clear hK K; refine norm_ (a' := ?_) ?_ ?_
                       rotate_left
                       ·show Act.put _ (some 43) _ = _
                        simp only [Act.put, sA, sB, sC, i64_w, i32_w]
                        rfl
                       refine pU HT_ 16 (some 44) ?_ #[true, true, true, true, true, true, true, true, true, true, true, true, true, true, true, true, true, false, false] rfl rfl ?_ ?_ ?_ ?_
                       rotate_left
                       ·intro w'
                        go_simp
                        with_reducible rfl
                       rotate_left
                       ·simp only [Act.put, sA, sB, sC, i64_w, i32_w]
                        rfl
                       refine one_ (i := 17) (N := some 5) #[true, true, true, true, true, true, true, true, true, true, true, true, true, true, true, true, true, true, false] rfl rfl (one_of HT_.out (by kernel_rfl)) (by decide) (fun K hK => ?_)
                       refine box_step ?hg (N := 5) ?hd (cs := #[.bool false, .int .u8 0, .int .u16 0, .int .u32 0, .int .u64 0, .string (⟨#[]⟩ : ByteArray), .string (⟨#[]⟩ : ByteArray), .string (⟨#[]⟩ : ByteArray)]) (t := 31) ?hr ?_; (case hd => rfl); (case hg => rfl); (case hr => first | (go_simp; done) | (go_simp; rfl))
                       intro gb125 hg w38 hbox hb
                       have BK125 := rM hbox; have GW125 := rG HB hg; replace HB := rS HB hb; have GE125 := GW125; have NB121_125 := rN BK121 hg; replace BK121 := rB BK121 hb; have NB125_121 := rY NB121_125; clear hb hbox hg; refine hK.out _ _ trivial (fun hHeld => ?_)
                       clear hK K; refine norm_ (a' := ?_) ?_ ?_
                       rotate_left
                       ·show Act.put _ (some 5) _ = _
                        simp only [Act.put, sA, sB, sC, i64_w, i32_w]
                        rfl
                       exact norm_ (by simp only [putAll, Act.put, sA, sB, sC, uW]) (hCont (gb125) _ ⟨(bK BK121.out), (bK BK125.out), GW125.out, GE125.out, NB121_125.out, NB125_121.out, (bH HB.out)⟩)
                      ·skip
                       refine box_step ?hg (N := 5) ?hd (cs := #[.bool false, .int .u8 0, .int .u16 0, .int .u32 0, .int .u64 0, .string (⟨#[]⟩ : ByteArray), .string (⟨#[]⟩ : ByteArray), .string (⟨#[]⟩ : ByteArray)]) (t := 31) ?hr ?_; (case hd => rfl); (case hg => rfl); (case hr => first | (go_simp; done) | (go_simp; rfl))
                       intro gb125 hg w38 hbox hb
                       have BK125 := rM hbox; have GW125 := rG HB hg; replace HB := rS HB hb; have GE125 := GW125; have NB121_125 := rN BK121 hg; replace BK121 := rB BK121 hb; have NB125_121 := rY NB121_125; clear hb hbox hg; refine hK.out _ _ trivial (fun hHeld => ?_)
                       clear hK K; refine norm_ (a' := ?_) ?_ ?_
                       rotate_left
                       ·show Act.put _ (some 5) _ = _
                        simp only [Act.put, sA, sB, sC, i64_w, i32_w]
                        rfl
                       refine one_ (i := 15) (N := some 43) #[true, true, true, true, true, true, true, true, true, true, true, true, true, true, true, true, false, true, false] rfl rfl (one_of HT_.out (by kernel_rfl)) (by decide) (fun K hK => ?_)
                       refine goes_ Try.func41 (by kernel_rfl) rfl #[.string (a0.extract 16 24)] (by rfl) rfl rfl (by (try simp only [List.map_toArray, List.map_cons, List.map_nil]); first | done | rfl | (simp only [List.length_drop, List.length_take]; rfl)) ?_
                       with_reducible refine (frame_take.calls kj1 (a0.extract 16 24) t124 _ A25.out).mono ?_
                       rintro e w' ⟨rfl, ⟨nd, rfl⟩⟩
                       refine ⟨_, rfl, ?_⟩
                       refine hK.out _ _ trivial (fun hHeld => ?_)
                       clear hK K; refine norm_ (a' := ?_) ?_ ?_
                       rotate_left
                       ·show Act.put _ (some 43) _ = _
                        simp only [Act.put, sA, sB, sC, i64_w, i32_w]
                        rfl
                       refine pU HT_ 16 (some 44) ?_ #[true, true, true, true, true, true, true, true, true, true, true, true, true, true, true, true, true, true, false] rfl rfl ?_ ?_ ?_ ?_
                       rotate_left
                       ·intro w'
                        go_simp
                        with_reducible rfl
                       rotate_left
                       ·simp only [Act.put, sA, sB, sC, i64_w, i32_w]
                        rfl
                       exact norm_ (by simp only [putAll, Act.put, sA, sB, sC, uW]) (hCont (gb125) _ ⟨(bK BK121.out), (bK BK125.out), GW125.out, GE125.out, NB121_125.out, NB125_121.out, (bH HB.out)⟩)
                     ·skip
                      refine box_step ?hg (N := 5) ?hd (cs := #[.bool false, .int .u8 0, .int .u16 0, .int .u32 0, .int .u64 0, .string (⟨#[]⟩ : ByteArray), .string (⟨#[]⟩ : ByteArray), .string (⟨#[]⟩ : ByteArray)]) (t := 31) ?hr ?_; (case hd => rfl); (case hg => rfl); (case hr => first | (go_simp; done) | (go_simp; rfl))
                      intro gb125 hg w38 hbox hb
                      have BK125 := rM hbox; have GW125 := rG HB hg; replace HB := rS HB hb; have GE125 := GW125; have NB121_125 := rN BK121 hg; replace BK121 := rB BK121 hb; have NB125_121 := rY NB121_125; clear hb hbox hg; refine hK.out _ _ trivial (fun hHeld => ?_)
                      clear hK K; refine norm_ (a' := ?_) ?_ ?_
                      rotate_left
                      ·show Act.put _ (some 5) _ = _
                       simp only [Act.put, sA, sB, sC, i64_w, i32_w]
                       rfl
                      refine one_ (i := 11) (N := some 39) #[true, true, true, true, true, true, true, true, true, true, true, true, false, true, true, false, false, true, false] rfl rfl (one_of HT_.out (by kernel_rfl)) (by decide) (fun K hK => ?_)
                      refine goes_ Try.func41 (by kernel_rfl) rfl #[.string (a0.extract 12 16)] (by rfl) rfl rfl (by (try simp only [List.map_toArray, List.map_cons, List.map_nil]); first | done | rfl | (simp only [List.length_drop, List.length_take]; rfl)) ?_
                      with_reducible refine (frame_take.calls kj1 (a0.extract 12 16) t123 _ A22.out).mono ?_
                      rintro e w' ⟨rfl, ⟨nd, rfl⟩⟩
                      refine ⟨_, rfl, ?_⟩
                      refine hK.out _ _ trivial (fun hHeld => ?_)
                      clear hK K; refine norm_ (a' := ?_) ?_ ?_
                      rotate_left
                      ·show Act.put _ (some 39) _ = _
                       simp only [Act.put, sA, sB, sC, i64_w, i32_w]
                       rfl
                      refine pU HT_ 12 (some 40) ?_ #[true, true, true, true, true, true, true, true, true, true, true, true, true, true, true, false, false, true, false] rfl rfl ?_ ?_ ?_ ?_
                      rotate_left
                      ·intro w'
                       go_simp
                       with_reducible rfl
                      rotate_left
                      ·simp only [Act.put, sA, sB, sC, i64_w, i32_w]
                       rfl
                      refine one_ (i := 15) (N := some 43) #[true, true, true, true, true, true, true, true, true, true, true, true, true, true, true, true, false, true, false] rfl rfl (one_of HT_.out (by kernel_rfl)) (by decide) (fun K hK => ?_)
                      refine goes_ Try.func41 (by kernel_rfl) rfl #[.string (a0.extract 16 24)] (by rfl) rfl rfl (by (try simp only [List.map_toArray, List.map_cons, List.map_nil]); first | done | rfl | (simp only [List.length_drop, List.length_take]; rfl)) ?_
                      with_reducible refine (frame_take.calls kj1 (a0.extract 16 24) t124 _ A25.out).mono ?_
                      rintro e w' ⟨rfl, ⟨nd, rfl⟩⟩
                      refine ⟨_, rfl, ?_⟩
                      refine hK.out _ _ trivial (fun hHeld => ?_)
                      clear hK K; refine norm_ (a' := ?_) ?_ ?_
                      rotate_left
                      ·show Act.put _ (some 43) _ = _
                       simp only [Act.put, sA, sB, sC, i64_w, i32_w]
                       rfl
                      refine pU HT_ 16 (some 44) ?_ #[true, true, true, true, true, true, true, true, true, true, true, true, true, true, true, true, true, true, false] rfl rfl ?_ ?_ ?_ ?_
                      rotate_left
                      ·intro w'
                       go_simp
                       with_reducible rfl
                      rotate_left
                      ·simp only [Act.put, sA, sB, sC, i64_w, i32_w]
                       rfl
                      exact norm_ (by simp only [putAll, Act.put, sA, sB, sC, uW]) (hCont (gb125) _ ⟨(bK BK121.out), (bK BK125.out), GW125.out, GE125.out, NB121_125.out, NB125_121.out, (bH HB.out)⟩)
                    ·skip
                     refine box_step ?hg (N := 5) ?hd (cs := #[.bool false, .int .u8 0, .int .u16 0, .int .u32 0, .int .u64 0, .string (⟨#[]⟩ : ByteArray), .string (⟨#[]⟩ : ByteArray), .string (⟨#[]⟩ : ByteArray)]) (t := 31) ?hr ?_; (case hd => rfl); (case hg => rfl); (case hr => first | (go_simp; done) | (go_simp; rfl))
                     intro gb125 hg w38 hbox hb
                     have BK125 := rM hbox; have GW125 := rG HB hg; replace HB := rS HB hb; have GE125 := GW125; have NB121_125 := rN BK121 hg; replace BK121 := rB BK121 hb; have NB125_121 := rY NB121_125; clear hb hbox hg; refine hK.out _ _ trivial (fun hHeld => ?_)
                     clear hK K; refine norm_ (a' := ?_) ?_ ?_
                     rotate_left
                     ·show Act.put _ (some 5) _ = _
                      simp only [Act.put, sA, sB, sC, i64_w, i32_w]
                      rfl
                     refine one_ (i := 7) (N := some 35) #[true, true, true, true, true, true, true, true, false, true, true, false, false, true, true, false, false, true, false] rfl rfl (one_of HT_.out (by kernel_rfl)) (by decide) (fun K hK => ?_)
                     refine goes_ Try.func41 (by kernel_rfl) rfl #[.string (a0.extract 6 8)] (by rfl) rfl rfl (by (try simp only [List.map_toArray, List.map_cons, List.map_nil]); first | done | rfl | (simp only [List.length_drop, List.length_take]; rfl)) ?_
                     with_reducible refine (frame_take.calls kj1 (a0.extract 6 8) t122 _ A19.out).mono ?_
                     rintro e w' ⟨rfl, ⟨nd, rfl⟩⟩
                     refine ⟨_, rfl, ?_⟩
                     refine hK.out _ _ trivial (fun hHeld => ?_)
                     clear hK K; refine norm_ (a' := ?_) ?_ ?_
                     rotate_left
                     ·show Act.put _ (some 35) _ = _
                      simp only [Act.put, sA, sB, sC, i64_w, i32_w]
                      rfl
                     refine pU HT_ 8 (some 36) ?_ #[true, true, true, true, true, true, true, true, true, true, true, false, false, true, true, false, false, true, false] rfl rfl ?_ ?_ ?_ ?_
                     rotate_left
                     ·intro w'
                      go_simp
                      with_reducible rfl
                     rotate_left
                     ·simp only [Act.put, sA, sB, sC, i64_w, i32_w]
                      rfl
                     refine one_ (i := 11) (N := some 39) #[true, true, true, true, true, true, true, true, true, true, true, true, false, true, true, false, false, true, false] rfl rfl (one_of HT_.out (by kernel_rfl)) (by decide) (fun K hK => ?_)
                     refine goes_ Try.func41 (by kernel_rfl) rfl #[.string (a0.extract 12 16)] (by rfl) rfl rfl (by (try simp only [List.map_toArray, List.map_cons, List.map_nil]); first | done | rfl | (simp only [List.length_drop, List.length_take]; rfl)) ?_
                     with_reducible refine (frame_take.calls kj1 (a0.extract 12 16) t123 _ A22.out).mono ?_
                     rintro e w' ⟨rfl, ⟨nd, rfl⟩⟩
                     refine ⟨_, rfl, ?_⟩
                     refine hK.out _ _ trivial (fun hHeld => ?_)
                     clear hK K; refine norm_ (a' := ?_) ?_ ?_
                     rotate_left
                     ·show Act.put _ (some 39) _ = _
                      simp only [Act.put, sA, sB, sC, i64_w, i32_w]
                      rfl
                     refine pU HT_ 12 (some 40) ?_ #[true, true, true, true, true, true, true, true, true, true, true, true, true, true, true, false, false, true, false] rfl rfl ?_ ?_ ?_ ?_
                     rotate_left
                     ·intro w'
                      go_simp
                      with_reducible rfl
                     rotate_left
                     ·simp only [Act.put, sA, sB, sC, i64_w, i32_w]
                      rfl
                     refine one_ (i := 15) (N := some 43) #[true, true, true, true, true, true, true, true, true, true, true, true, true, true, true, true, false, true, false] rfl rfl (one_of HT_.out (by kernel_rfl)) (by decide) (fun K hK => ?_)
                     refine goes_ Try.func41 (by kernel_rfl) rfl #[.string (a0.extract 16 24)] (by rfl) rfl rfl (by (try simp only [List.map_toArray, List.map_cons, List.map_nil]); first | done | rfl | (simp only [List.length_drop, List.length_take]; rfl)) ?_
                     with_reducible refine (frame_take.calls kj1 (a0.extract 16 24) t124 _ A25.out).mono ?_
                     rintro e w' ⟨rfl, ⟨nd, rfl⟩⟩
                     refine ⟨_, rfl, ?_⟩
                     refine hK.out _ _ trivial (fun hHeld => ?_)
                     clear hK K; refine norm_ (a' := ?_) ?_ ?_
                     rotate_left
                     ·show Act.put _ (some 43) _ = _
                      simp only [Act.put, sA, sB, sC, i64_w, i32_w]
                      rfl
                     refine pU HT_ 16 (some 44) ?_ #[true, true, true, true, true, true, true, true, true, true, true, true, true, true, true, true, true, true, false] rfl rfl ?_ ?_ ?_ ?_
                     rotate_left
                     ·intro w'
                      go_simp
                      with_reducible rfl
                     rotate_left
                     ·simp only [Act.put, sA, sB, sC, i64_w, i32_w]
                      rfl
                     exact norm_ (by simp only [putAll, Act.put, sA, sB, sC, uW]) (hCont (gb125) _ ⟨(bK BK121.out), (bK BK125.out), GW125.out, GE125.out, NB121_125.out, NB125_121.out, (bH HB.out)⟩)
                   rintro gb125 w39 ⟨h0_, h1_, h2_, h3_, h4_, h5_, h6_⟩
                   have n0_ : Aside0 (w39.heap[gb121]? = some (.cells #[.bool false, .int .u8 0, .int .u16 0, .int .u32 0, .int .u64 0, .string (⟨#[]⟩ : ByteArray), .string (⟨#[]⟩ : ByteArray), .string (⟨#[]⟩ : ByteArray)] 31 (0, 0))) := ⟨h0_⟩; have n1_ : Aside0 (w39.heap[gb125]? = some (.cells #[.bool false, .int .u8 0, .int .u16 0, .int .u32 0, .int .u64 0, .string (⟨#[]⟩ : ByteArray), .string (⟨#[]⟩ : ByteArray), .string (⟨#[]⟩ : ByteArray)] 31 (0, 0))) := ⟨h1_⟩; have n2_ : Aside0 (w.heap.size ≤ gb125) := ⟨h2_⟩; have n3_ : Aside0 (w.heap.size ≤ gb125) := ⟨h3_⟩; have n4_ : Aside0 (gb121 ≠ gb125) := ⟨h4_⟩; have n5_ : Aside0 (gb125 ≠ gb121) := ⟨h5_⟩; have n6_ : Aside0 (Below w.heap.size w w39) := ⟨h6_⟩; clear BK121; clear HB; clear h0_ h1_ h2_ h3_ h4_ h5_ h6_; have BK121 := n0_; have BK125 := n1_; have GW125 := n2_; have GE125 := n3_; have NB121_125 := n4_; have NB125_121 := n5_; have HB := n6_; clear n0_ n1_ n2_ n3_ n4_ n5_ n6_; have hHeld := trivial; refine norm_ (a' := ?_) ?_ ?_
                   rotate_left
                   ·simp only [putAll, Act.put, sA, sB, sC]
                    rfl
                   refine one_ (i := 18) (N := none) #[true, true, true, true, true, true, true, true, true, true, true, true, true, true, true, true, true, true, true] rfl rfl (one_of HT_.out (by kernel_rfl)) (by decide) (fun K hK => ?_)
                   have hs40 : w39.cell? ⟨gb125, 0, none⟩ = some (.bool false) := (blk_cell BK125.out 0).trans rfl; have hfs40 := blk_frozen BK125.out 0; have hns40_0 := NB121_125.out; have hms40_0 := NB125_121.out; have hs41 : w39.cell? ⟨gb125, 1, none⟩ = some (.int .u8 0) := (blk_cell BK125.out 1).trans rfl; have hfs41 := blk_frozen BK125.out 1; have hns41_0 := NB121_125.out; have hms41_0 := NB125_121.out; have hs42 : w39.cell? ⟨gb125, 2, none⟩ = some (.int .u16 0) := (blk_cell BK125.out 2).trans rfl; have hfs42 := blk_frozen BK125.out 2; have hns42_0 := NB121_125.out; have hms42_0 := NB125_121.out; have hs43 : w39.cell? ⟨gb125, 3, none⟩ = some (.int .u32 0) := (blk_cell BK125.out 3).trans rfl; have hfs43 := blk_frozen BK125.out 3; have hns43_0 := NB121_125.out; have hms43_0 := NB125_121.out; have hs44 : w39.cell? ⟨gb125, 4, none⟩ = some (.int .u64 0) := (blk_cell BK125.out 4).trans rfl; have hfs44 := blk_frozen BK125.out 4; have hns44_0 := NB121_125.out; have hms44_0 := NB125_121.out; have hs45 : w39.cell? ⟨gb125, 5, none⟩ = some (.string (⟨#[]⟩ : ByteArray)) := (blk_cell BK125.out 5).trans rfl; have hfs45 := blk_frozen BK125.out 5; have hns45_0 := NB121_125.out; have hms45_0 := NB125_121.out; have hs46 : w39.cell? ⟨gb125, 6, none⟩ = some (.string (⟨#[]⟩ : ByteArray)) := (blk_cell BK125.out 6).trans rfl; have hfs46 := blk_frozen BK125.out 6; have hns46_0 := NB121_125.out; have hms46_0 := NB125_121.out; have hs47 : w39.cell? ⟨gb125, 7, none⟩ = some (.string (⟨#[]⟩ : ByteArray)) := (blk_cell BK125.out 7).trans rfl; have hfs47 := blk_frozen BK125.out 7; have hns47_0 := NB121_125.out; have hms47_0 := NB125_121.out; refine skip_ (w1 := ?_) (by rfl) rfl ?_ ?_
                   rotate_left
                   ·go_simp
                    rfl
                   refine hK.out _ _ trivial (fun hHeld => ?_)
                   clear hK K; refine done_ (done_of HT_.out (by kernel_rfl)) ?_
                   try go_wp2
                   have n0_ : Aside0 (((((((((w39.setCell ⟨gb125, 0, none⟩ (.bool ((bt a0 0) == 129))).setCell ⟨gb125, 1, none⟩ (.int .u8 (bt a0 1))).setCell ⟨gb125, 2, none⟩ (.int .u16 (IntKind.u16.wrap (t122)))).setCell ⟨gb125, 3, none⟩ (.int .u32 ((t123) % 4294967296))).setCell ⟨gb125, 4, none⟩ (.int .u64 t124)).setCell ⟨gb125, 5, none⟩ (.string (⟨#[]⟩ : ByteArray))).setCell ⟨gb125, 6, none⟩ (.string (⟨#[]⟩ : ByteArray))).setCell ⟨gb125, 7, none⟩ (.string (⟨#[]⟩ : ByteArray))).heap[gb121]? = some (.cells #[.bool false, .int .u8 0, .int .u16 0, .int .u32 0, .int .u64 0, .string (⟨#[]⟩ : ByteArray), .string (⟨#[]⟩ : ByteArray), .string (⟨#[]⟩ : ByteArray)] 31 (0, 0))) := ⟨bK BK121.out⟩
                   have n1_ : Aside0 (((((((((w39.setCell ⟨gb125, 0, none⟩ (.bool ((bt a0 0) == 129))).setCell ⟨gb125, 1, none⟩ (.int .u8 (bt a0 1))).setCell ⟨gb125, 2, none⟩ (.int .u16 (IntKind.u16.wrap (t122)))).setCell ⟨gb125, 3, none⟩ (.int .u32 ((t123) % 4294967296))).setCell ⟨gb125, 4, none⟩ (.int .u64 t124)).setCell ⟨gb125, 5, none⟩ (.string (⟨#[]⟩ : ByteArray))).setCell ⟨gb125, 6, none⟩ (.string (⟨#[]⟩ : ByteArray))).setCell ⟨gb125, 7, none⟩ (.string (⟨#[]⟩ : ByteArray))).heap[gb125]? = some (.cells #[.bool ((bt a0 0) == 129), .int .u8 (bt a0 1), .int .u16 (IntKind.u16.wrap (t122)), .int .u32 ((t123) % 4294967296), .int .u64 t124, .string (⟨#[]⟩ : ByteArray), .string (⟨#[]⟩ : ByteArray), .string (⟨#[]⟩ : ByteArray)] 31 (0, 0))) := ⟨by (with_reducible repeat (first | refine bN ?_ _ | refine bD ?_ | refine bA ?_ _)); refine blk_put (cs := #[.bool ((bt a0 0) == 129), .int .u8 (bt a0 1), .int .u16 (IntKind.u16.wrap (t122)), .int .u32 ((t123) % 4294967296), .int .u64 t124, .string (⟨#[]⟩ : ByteArray), .string (⟨#[]⟩ : ByteArray), .string (⟨#[]⟩ : ByteArray)]) ?_ 7 _ (by first | rfl | (rw [frame_Unpack.ssz (s := a0) (lo := 24) (hi := wrap64 (24 + wrap64 t127)) (by assumption)]; rfl)); (with_reducible repeat (first | refine bN ?_ _ | refine bD ?_ | refine bA ?_ _)); refine blk_put (cs := #[.bool ((bt a0 0) == 129), .int .u8 (bt a0 1), .int .u16 (IntKind.u16.wrap (t122)), .int .u32 ((t123) % 4294967296), .int .u64 t124, .string (⟨#[]⟩ : ByteArray), .string (⟨#[]⟩ : ByteArray), .string (⟨#[]⟩ : ByteArray)]) ?_ 6 _ rfl; (with_reducible repeat (first | refine bN ?_ _ | refine bD ?_ | refine bA ?_ _)); refine blk_put (cs := #[.bool ((bt a0 0) == 129), .int .u8 (bt a0 1), .int .u16 (IntKind.u16.wrap (t122)), .int .u32 ((t123) % 4294967296), .int .u64 t124, .string (⟨#[]⟩ : ByteArray), .string (⟨#[]⟩ : ByteArray), .string (⟨#[]⟩ : ByteArray)]) ?_ 5 _ rfl; (with_reducible repeat (first | refine bN ?_ _ | refine bD ?_ | refine bA ?_ _)); refine blk_put (cs := #[.bool ((bt a0 0) == 129), .int .u8 (bt a0 1), .int .u16 (IntKind.u16.wrap (t122)), .int .u32 ((t123) % 4294967296), .int .u64 0, .string (⟨#[]⟩ : ByteArray), .string (⟨#[]⟩ : ByteArray), .string (⟨#[]⟩ : ByteArray)]) ?_ 4 _ rfl; (with_reducible repeat (first | refine bN ?_ _ | refine bD ?_ | refine bA ?_ _)); refine blk_put (cs := #[.bool ((bt a0 0) == 129), .int .u8 (bt a0 1), .int .u16 (IntKind.u16.wrap (t122)), .int .u32 0, .int .u64 0, .string (⟨#[]⟩ : ByteArray), .string (⟨#[]⟩ : ByteArray), .string (⟨#[]⟩ : ByteArray)]) ?_ 3 _ rfl; (with_reducible repeat (first | refine bN ?_ _ | refine bD ?_ | refine bA ?_ _)); refine blk_put (cs := #[.bool ((bt a0 0) == 129), .int .u8 (bt a0 1), .int .u16 0, .int .u32 0, .int .u64 0, .string (⟨#[]⟩ : ByteArray), .string (⟨#[]⟩ : ByteArray), .string (⟨#[]⟩ : ByteArray)]) ?_ 2 _ rfl; (with_reducible repeat (first | refine bN ?_ _ | refine bD ?_ | refine bA ?_ _)); refine blk_put (cs := #[.bool ((bt a0 0) == 129), .int .u8 0, .int .u16 0, .int .u32 0, .int .u64 0, .string (⟨#[]⟩ : ByteArray), .string (⟨#[]⟩ : ByteArray), .string (⟨#[]⟩ : ByteArray)]) ?_ 1 _ rfl; (with_reducible repeat (first | refine bN ?_ _ | refine bD ?_ | refine bA ?_ _)); refine blk_put (cs := #[.bool false, .int .u8 0, .int .u16 0, .int .u32 0, .int .u64 0, .string (⟨#[]⟩ : ByteArray), .string (⟨#[]⟩ : ByteArray), .string (⟨#[]⟩ : ByteArray)]) ?_ 0 _ rfl; (with_reducible repeat (first | refine bN ?_ _ | refine bD ?_ | refine bA ?_ _)); exact BK125.out⟩
                   have n2_ : Aside0 (Below w.heap.size w ((((((((w39.setCell ⟨gb125, 0, none⟩ (.bool ((bt a0 0) == 129))).setCell ⟨gb125, 1, none⟩ (.int .u8 (bt a0 1))).setCell ⟨gb125, 2, none⟩ (.int .u16 (IntKind.u16.wrap (t122)))).setCell ⟨gb125, 3, none⟩ (.int .u32 ((t123) % 4294967296))).setCell ⟨gb125, 4, none⟩ (.int .u64 t124)).setCell ⟨gb125, 5, none⟩ (.string (⟨#[]⟩ : ByteArray))).setCell ⟨gb125, 6, none⟩ (.string (⟨#[]⟩ : ByteArray))).setCell ⟨gb125, 7, none⟩ (.string (⟨#[]⟩ : ByteArray)))) := ⟨bH HB.out⟩
                   (try clear BK121)
                   (try clear BK125)
                   (try clear HB)
                   generalize ((((((((w39.setCell ⟨gb125, 0, none⟩ (.bool ((bt a0 0) == 129))).setCell ⟨gb125, 1, none⟩ (.int .u8 (bt a0 1))).setCell ⟨gb125, 2, none⟩ (.int .u16 (IntKind.u16.wrap (t122)))).setCell ⟨gb125, 3, none⟩ (.int .u32 ((t123) % 4294967296))).setCell ⟨gb125, 4, none⟩ (.int .u64 t124)).setCell ⟨gb125, 5, none⟩ (.string (⟨#[]⟩ : ByteArray))).setCell ⟨gb125, 6, none⟩ (.string (⟨#[]⟩ : ByteArray))).setCell ⟨gb125, 7, none⟩ (.string (⟨#[]⟩ : ByteArray))) = w48 at n0_ n1_ n2_ ⊢; have BK121 := n0_; have BK125 := n1_; have HB := n2_; clear n0_ n1_ n2_; replace BK121 := Aside0.mk (bD BK121.out); replace BK125 := Aside0.mk (bD BK125.out); replace HB := Aside0.mk (eD HB.out); have p30 : 0 ≤ (4 : Int) := (by omega); have q30 : 4 < a0.size := (by have : (4 : Int) < (a0.size : Int) := of_decide_eq_true (by first | (with_reducible assumption) | assumption); omega)
                   have hx30 : ∀ h : 4 < a0.size, ((a0[4]'h).toNat : Int) = bt a0 4 := bt_at a0 4
                   clear p30; have qi30 : (4 < (a0.size : Int)) = True := eq_true (of_decide_eq_true (by first | (with_reducible assumption) | assumption)); replace q30 := eq_true q30; refine start_ (n := 14) (S := fun w' => True) (ds := []) #[false, false, false, false, false, false, false, false, false, false, false, false, false, false] (by kernel_rfl) rfl rfl trivial (fun hHeld => ?_); refine with_tabW frame_Unpack.tab6 frame_Unpack.bits6 (fun HT_ HW_ => ?_)
                   generalize w48.drew = w49 at BK121 BK125 HB hHeld ⊢; refine pU HT_ 0 (some 45) ?_ #[true, false, false, false, false, false, false, false, false, false, false, false, false, false] rfl rfl ?_ ?_ ?_ ?_
                   rotate_left
                   ·intro w'
                    go_simp
                    with_reducible rfl
                   rotate_left
                   ·simp only [Act.put, sA, sB, sC, i64_w, i32_w]
                    rfl
                   refine pU HT_ 1 (some 46) ?_ #[true, true, false, false, false, false, false, false, false, false, false, false, false, false] rfl rfl ?_ ?_ ?_ ?_
                   rotate_left
                   ·intro w'
                    go_simp
                    with_reducible rfl
                   rotate_left
                   ·simp only [Act.put, sA, sB, sC, i64_w, i32_w]
                    rfl
                   refine pU HT_ 4 (some 49) ?_ #[true, true, false, false, true, false, false, false, false, false, false, false, false, false] rfl rfl ?_ ?_ ?_ ?_
                   rotate_left
                   ·intro w'
                    go_simp
                    with_reducible rfl
                   rotate_left
                   ·simp only [Act.put, sA, sB, sC, i64_w, i32_w]
                    rfl
                   refine pU HT_ 7 (some 52) ?_ #[true, true, false, false, true, false, false, true, false, false, false, false, false, false] rfl rfl ?_ ?_ ?_ ?_
                   rotate_left
                   ·intro w'
                    go_simp
                    with_reducible rfl
                   rotate_left
                   ·simp only [Act.put, sA, sB, sC, i64_w, i32_w]
                    rfl
                   refine pU HT_ 8 (some 53) ?_ #[true, true, false, false, true, false, false, true, true, false, false, false, false, false] rfl rfl ?_ ?_ ?_ ?_
                   rotate_left
                   ·intro w'
                    go_simp
                    with_reducible rfl
                   rotate_left
                   ·simp only [Act.put, sA, sB, sC, i64_w, i32_w]
                    rfl
                   refine tU HT_ HW_ hHeld 5 (some 50) ?_ #[true, true, false, false, true, true, false, true, true, false, false, false, false, false] rfl rfl ?_ ?_ ?_ ?_
                   rotate_left
                   ·intro w' _
                    go_simp
                    with_reducible rfl
                   rotate_left
                   ·simp only [Act.put, sA, sB, sC, i64_w, i32_w]
                    rfl
                   refine pU HT_ 6 (some 51) ?_ #[true, true, false, false, true, true, true, true, true, false, false, false, false, false] rfl rfl ?_ ?_ ?_ ?_
                   rotate_left
                   ·intro w'
                    go_simp
                    with_reducible rfl
                   rotate_left
                   ·simp only [Act.put, sA, sB, sC, i64_w, i32_w]
                    rfl
                   refine one_ (i := 2) (N := some 47) #[true, true, true, false, true, true, true, true, true, false, false, false, false, false] rfl rfl (one_of HT_.out (by kernel_rfl)) (by decide) (fun K hK => ?_)
                   refine goes_ Try.func41 (by kernel_rfl) rfl #[.string (a0.extract 2 4)] (by rfl) rfl rfl (by (try simp only [List.map_toArray, List.map_cons, List.map_nil]); first | done | rfl | (simp only [List.length_drop, List.length_take]; rfl)) ?_
                   with_reducible refine (frame_take.calls kj1 (a0.extract 2 4) t126 _ A28.out).mono ?_
                   rintro e w' ⟨rfl, ⟨nd, rfl⟩⟩
                   refine ⟨_, rfl, ?_⟩
                   refine hK.out _ _ trivial (fun hHeld => ?_)
                   clear hK K; refine norm_ (a' := ?_) ?_ ?_
                   rotate_left
                   ·show Act.put _ (some 47) _ = _
                    simp only [Act.put, sA, sB, sC, i64_w, i32_w]
                    rfl
                   refine pU HT_ 3 (some 48) ?_ #[true, true, true, true, true, true, true, true, true, false, false, false, false, false] rfl rfl ?_ ?_ ?_ ?_
                   rotate_left
                   ·intro w'
                    go_simp
                    with_reducible rfl
                   rotate_left
                   ·simp only [Act.put, sA, sB, sC, i64_w, i32_w]
                    rfl
                   refine one_ (i := 9) (N := some 54) #[true, true, true, true, true, true, true, true, true, true, false, false, false, false] rfl rfl (one_of HT_.out (by kernel_rfl)) (by decide) (fun K hK => ?_)
                   refine goes_ Try.func41 (by kernel_rfl) rfl #[.string (a0.extract 8 12)] (by rfl) rfl rfl (by (try simp only [List.map_toArray, List.map_cons, List.map_nil]); first | done | rfl | (simp only [List.length_drop, List.length_take]; rfl)) ?_
                   with_reducible refine (frame_take.calls kj1 (a0.extract 8 12) t127 _ A33.out).mono ?_
                   rintro e w' ⟨rfl, ⟨nd, rfl⟩⟩
                   refine ⟨_, rfl, ?_⟩
                   refine hK.out _ _ trivial (fun hHeld => ?_)
                   clear hK K; refine norm_ (a' := ?_) ?_ ?_
                   rotate_left
                   ·show Act.put _ (some 54) _ = _
                    simp only [Act.put, sA, sB, sC, i64_w, i32_w]
                    rfl
                   refine pU HT_ 10 (some 55) ?_ #[true, true, true, true, true, true, true, true, true, true, true, false, false, false] rfl rfl ?_ ?_ ?_ ?_
                   rotate_left
                   ·intro w'
                    go_simp
                    with_reducible rfl
                   rotate_left
                   ·simp only [Act.put, sA, sB, sC, i64_w, i32_w]
                    rfl
                   refine pU HT_ 11 (some 6) ?_ #[true, true, true, true, true, true, true, true, true, true, true, true, false, false] rfl rfl ?_ ?_ ?_ ?_
                   rotate_left
                   ·intro w'
                    go_simp
                    with_reducible rfl
                   rotate_left
                   ·simp only [Act.put, sA, sB, sC, i64_w, i32_w]
                    rfl
                   refine pU HT_ 12 (some 7) ?_ #[true, true, true, true, true, true, true, true, true, true, true, true, true, false] rfl rfl ?_ ?_ ?_ ?_
                   rotate_left
                   ·intro w'
                    go_simp
                    with_reducible rfl
                   rotate_left
                   ·simp only [Act.put, sA, sB, sC, i64_w, i32_w]
                    rfl
                   refine pU HT_ 13 (some 8) ?_ #[true, true, true, true, true, true, true, true, true, true, true, true, true, true] rfl rfl ?_ ?_ ?_ ?_
                   rotate_left
                   ·intro w'
                    go_simp
                    with_reducible rfl
                   rotate_left
                   ·simp only [Act.put, sA, sB, sC, i64_w, i32_w]
                    rfl
                   refine done_ (done_of HT_.out (by kernel_rfl)) ?_
                   have p35 : 0 ≤ (5 : Int) := (by omega); have q35 : 5 < a0.size := (by have : (5 : Int) < (a0.size : Int) := of_decide_eq_true (by first | (with_reducible assumption) | assumption); omega)
                   have hx35 : ∀ h : 5 < a0.size, ((a0[5]'h).toNat : Int) = bt a0 5 := bt_at a0 5
                   clear p35; have qi35 : (5 < (a0.size : Int)) = True := eq_true (of_decide_eq_true (by first | (with_reducible assumption) | assumption)); replace q35 := eq_true q35
                   go_upto_if 61 with (fail)
                   go_cut [61] (fun v61 wc => ∃ (kq : Nat) (x61_35 : Bool), v61 = .bool x61_35 ∧ Aside0 (frame_Unpack.j1 kq a0 (wrap64 (t126)) (wrap64 (bt a0 4)) (wrap64 (t127)) (wrap64 ((wrap64 ((wrap64 (t127)) - (wrap64 (t126)))) - (wrap64 (bt a0 4)))) x61_35 ((bt a0 0) == 129) (bt a0 1) (IntKind.u16.wrap (t122)) ((t123) % 4294967296) t124 (⟨#[]⟩ : ByteArray) (⟨#[]⟩ : ByteArray) (⟨#[]⟩ : ByteArray) = some (r1, r2, r3, r4, r5, r6, r7, r8, r9, r10)) ∧ Aside0 (kq ≤ kj1) ∧ Aside0 (wc.heap[gb121]? = some (.cells #[.bool false, .int .u8 0, .int .u16 0, .int .u32 0, .int .u64 0, .string (⟨#[]⟩ : ByteArray), .string (⟨#[]⟩ : ByteArray), .string (⟨#[]⟩ : ByteArray)] 31 (0, 0))) ∧ Aside0 (wc.heap[gb125]? = some (.cells #[.bool ((bt a0 0) == 129), .int .u8 (bt a0 1), .int .u16 (IntKind.u16.wrap (t122)), .int .u32 ((t123) % 4294967296), .int .u64 t124, .string (⟨#[]⟩ : ByteArray), .string (⟨#[]⟩ : ByteArray), .string (⟨#[]⟩ : ByteArray)] 31 (0, 0))) ∧ Aside0 (Below w.heap.size w wc))
                   case first =>
                    have H := HC36.out; clear HC36
                    by_cases c50 : (bt a0 5) = 0
                    ·rw [if_pos c50] at H; have c50b0 : ((bt a0 5) == 0) = true := beq_iff_eq.mpr c50; have c50b1 : ((bt a0 5) != 0) = false := bne_eq_false_iff_eq.mpr c50; clear c50
                     (first | rw [c50b0] | (simp only [i64_w, i32_w]; rw [c50b0]) | skip)
                     by_cases c51 : ((bt a0 0) = 129)
                     ·rw [if_pos c51] at H; have c51b0 : ((bt a0 0) == 129) = true := beq_iff_eq.mpr c51; have c51b1 : ((bt a0 0) != 129) = false := bne_eq_false_iff_eq.mpr c51; clear c51; have H' := Aside0.mk H; clear H; have hnb52 := rP NB125_121 NB121_125; obtain ⟨hcz53, hfz53⟩ := d8 BK125; go_wp2
                      go_meet
                      case rel => exact ⟨_, (decide ((wrap64 ((wrap64 ((wrap64 (t127)) - (wrap64 (t126)))) - (wrap64 (bt a0 4)))) < 0)), (by first | rfl | (simp; done) | (simp [*]; done)), H', ⟨by have := HJ1.out; first | omega | exact Nat.le_refl _⟩, ⟨bK BK121.out⟩, ⟨bK BK125.out⟩, ⟨bH HB.out⟩⟩
                     ·rw [if_neg c51] at H; have c51b0 : ((bt a0 0) == 129) = false := beq_eq_false_iff_ne.mpr c51; have c51b1 : ((bt a0 0) != 129) = true := bne_iff_ne.mpr c51
                      by_cases c54 : (IntKind.u16.wrap (t122)) = 0
                      ·rw [if_pos c54] at H; have c54b0 : ((IntKind.u16.wrap (t122)) == 0) = true := beq_iff_eq.mpr c54; have c54b1 : ((IntKind.u16.wrap (t122)) != 0) = false := bne_eq_false_iff_eq.mpr c54; clear c54; have H' := Aside0.mk H; clear H; have hnb55 := rP NB125_121 NB121_125; obtain ⟨hcz56, hfz56⟩ := d8 BK125; go_wp2
                       go_meet
                       case rel => exact ⟨_, (decide ((wrap64 ((wrap64 ((wrap64 (t127)) - (wrap64 (t126)))) - (wrap64 (bt a0 4)))) < 0)), (by first | rfl | (simp; done) | (simp [*]; done)), H', ⟨by have := HJ1.out; first | omega | exact Nat.le_refl _⟩, ⟨bK BK121.out⟩, ⟨bK BK125.out⟩, ⟨bH HB.out⟩⟩
                      ·rw [if_neg c54] at H; have c54b0 : ((IntKind.u16.wrap (t122)) == 0) = false := beq_eq_false_iff_ne.mpr c54; have c54b1 : ((IntKind.u16.wrap (t122)) != 0) = true := bne_iff_ne.mpr c54; have H' := Aside0.mk H; clear H; have hnb57 := rP NB125_121 NB121_125; obtain ⟨hcz58, hfz58⟩ := d8 BK125; go_wp2
                       go_meet
                       case rel => exact ⟨_, (((IntKind.u16.wrap (t122)) != 0)), (by first | rfl | (simp; done) | (simp [*]; done)), H', ⟨by have := HJ1.out; first | omega | exact Nat.le_refl _⟩, ⟨bK BK121.out⟩, ⟨bK BK125.out⟩, ⟨bH HB.out⟩⟩
                    ·rw [if_neg c50] at H; have c50b0 : ((bt a0 5) == 0) = false := beq_eq_false_iff_ne.mpr c50; have c50b1 : ((bt a0 5) != 0) = true := bne_iff_ne.mpr c50
                     (first | rw [c50b0] | (simp only [i64_w, i32_w]; rw [c50b0]) | skip)
                     have H' := Aside0.mk H; clear H; go_wp2
                     go_meet
                     case rel => exact ⟨_, (((bt a0 5) != 0)), (by first | rfl | (simp; done) | (simp [*]; done)), H', ⟨by have := HJ1.out; first | omega | exact Nat.le_refl _⟩, ⟨bK BK121.out⟩, ⟨bK BK125.out⟩, ⟨bH HB.out⟩⟩
                   case rest =>
                    clear HC36; (try clear c4); (try clear c5); (try clear p6); (try clear p30); (try clear q30); (try clear hx30); (try clear qi30); (try clear p35); (try clear q35); (try clear hx35); (try clear qi35); (try clear c50); (try clear c50b0); (try clear c50b1); (try clear c51); (try clear c51b0); (try clear c51b1); (try clear c54); (try clear c54b0); (try clear c54b1); (try clear hcz53); (try clear hcz56); (try clear hcz58); (try clear hfz53); (try clear hfz56); (try clear hfz58); (try clear p30); (try clear p35); (try clear q30); (try clear q35); obtain ⟨kq, x61_35, rfl, HA, HJ35, BK121, BK125, HB⟩ := hcut; cases kq with
                    | zero => exact absurd HA.out (by simp [frame_Unpack.j1])
                    | succ kj35 =>
                     have H := HA.out; clear HA; simp only [frame_Unpack.j1] at H
                     by_cases c59 : x61_35 = true
                     ·subst c59; rw [if_pos rfl] at H; simp only [Option.some.injEq, Prod.mk.injEq] at H; obtain ⟨rfl, rfl, rfl, rfl, rfl, rfl, rfl, rfl, rfl, rfl⟩ := H; have hnb60 := rP NB121_125 NB125_121; obtain ⟨hcz61, hfz61⟩ := d8 BK121; go_wp2; refine bodyPost_ret (results_ctt rfl _ _ gb121 31 #[.bool false, .int .u8 0, .int .u16 0, .int .u32 0, .int .u64 0, .string (⟨#[]⟩ : ByteArray), .string (⟨#[]⟩ : ByteArray), .string (⟨#[]⟩ : ByteArray)] (0, 0) _ rfl (by (with_reducible repeat (first | refine bN ?_ _ | refine bD ?_ | refine bA ?_ _)); refine blk_put (cs := #[.bool false, .int .u8 0, .int .u16 0, .int .u32 0, .int .u64 0, .string (⟨#[]⟩ : ByteArray), .string (⟨#[]⟩ : ByteArray), .string (⟨#[]⟩ : ByteArray)]) ?_ 7 _ (by first | rfl | (rw [frame_Unpack.ssz (s := a0) (lo := 24) (hi := wrap64 (24 + wrap64 t127)) (by assumption)]; rfl)); (with_reducible repeat (first | refine bN ?_ _ | refine bD ?_ | refine bA ?_ _)); refine blk_put (cs := #[.bool false, .int .u8 0, .int .u16 0, .int .u32 0, .int .u64 0, .string (⟨#[]⟩ : ByteArray), .string (⟨#[]⟩ : ByteArray), .string (⟨#[]⟩ : ByteArray)]) ?_ 6 _ rfl; (with_reducible repeat (first | refine bN ?_ _ | refine bD ?_ | refine bA ?_ _)); refine blk_put (cs := #[.bool false, .int .u8 0, .int .u16 0, .int .u32 0, .int .u64 0, .string (⟨#[]⟩ : ByteArray), .string (⟨#[]⟩ : ByteArray), .string (⟨#[]⟩ : ByteArray)]) ?_ 5 _ rfl; (with_reducible repeat (first | refine bN ?_ _ | refine bD ?_ | refine bA ?_ _)); refine blk_put (cs := #[.bool false, .int .u8 0, .int .u16 0, .int .u32 0, .int .u64 0, .string (⟨#[]⟩ : ByteArray), .string (⟨#[]⟩ : ByteArray), .string (⟨#[]⟩ : ByteArray)]) ?_ 4 _ rfl; (with_reducible repeat (first | refine bN ?_ _ | refine bD ?_ | refine bA ?_ _)); refine blk_put (cs := #[.bool false, .int .u8 0, .int .u16 0, .int .u32 0, .int .u64 0, .string (⟨#[]⟩ : ByteArray), .string (⟨#[]⟩ : ByteArray), .string (⟨#[]⟩ : ByteArray)]) ?_ 3 _ rfl; (with_reducible repeat (first | refine bN ?_ _ | refine bD ?_ | refine bA ?_ _)); refine blk_put (cs := #[.bool false, .int .u8 0, .int .u16 0, .int .u32 0, .int .u64 0, .string (⟨#[]⟩ : ByteArray), .string (⟨#[]⟩ : ByteArray), .string (⟨#[]⟩ : ByteArray)]) ?_ 2 _ rfl; (with_reducible repeat (first | refine bN ?_ _ | refine bD ?_ | refine bA ?_ _)); refine blk_put (cs := #[.bool false, .int .u8 0, .int .u16 0, .int .u32 0, .int .u64 0, .string (⟨#[]⟩ : ByteArray), .string (⟨#[]⟩ : ByteArray), .string (⟨#[]⟩ : ByteArray)]) ?_ 1 _ rfl; (with_reducible repeat (first | refine bN ?_ _ | refine bD ?_ | refine bA ?_ _)); refine blk_put (cs := #[.bool false, .int .u8 0, .int .u16 0, .int .u32 0, .int .u64 0, .string (⟨#[]⟩ : ByteArray), .string (⟨#[]⟩ : ByteArray), .string (⟨#[]⟩ : ByteArray)]) ?_ 0 _ rfl; (with_reducible repeat (first | refine bN ?_ _ | refine bD ?_ | refine bA ?_ _)); exact BK121.out) Try.underlying31 rfl (by kernel_rfl)) rfl ?_
                      exact ⟨xR, bH HB.out⟩
                     ·replace c59 := Bool.eq_false_iff.mpr c59; subst c59; rw [if_neg (show ¬ (false = true) by decide)] at H; replace H := Option.bind_eq_some_iff.mp H; obtain ⟨t128, A620, H⟩ := H; (try dsimp only at H); have A62 := Aside0.mk A620; clear A620
                      by_cases c63 : t128 = true
                      ·subst c63; rw [if_pos rfl] at H
                       by_cases c64 : (a0.size : Int) < (wrap64 (24 + (wrap64 (t127))))
                       ·rw [if_pos c64] at H; have c64b0 : decide ((a0.size : Int) < (wrap64 (24 + (wrap64 (t127))))) = true := decide_eq_true c64; clear c64; simp only [Option.some.injEq, Prod.mk.injEq] at H; obtain ⟨rfl, rfl, rfl, rfl, rfl, rfl, rfl, rfl, rfl, rfl⟩ := H
                        go_wp2_with (first | ((with_reducible refine gate_callee (f := 37) rfl ?_); refine gL (some 80) rfl rfl Try.func37 #[.int .i64 (wrap64 (t126)), .int .i64 (wrap64 (bt a0 4)), .int .i64 (wrap64 ((wrap64 ((wrap64 (t127)) - (wrap64 (t126)))) - (wrap64 (bt a0 4))))] rfl ?_; (with_reducible refine (frame_fits.calls (wrap64 (t126)) (wrap64 (bt a0 4)) (wrap64 ((wrap64 ((wrap64 (t127)) - (wrap64 (t126)))) - (wrap64 (bt a0 4)))) true _ A62.out).mono ?_); rintro e w' ⟨rfl, ⟨nd, rfl⟩⟩; refine ⟨_, rfl, ?_⟩; (try simp only [World.drewN_drewN]); (try (rw [drewN_self wc]; generalize hq_ : World.drewN wc _ = wc; have n0_ := Aside0.mk (bQ BK121.out hq_); have n1_ := Aside0.mk (bQ BK125.out hq_); have n2_ := Aside0.mk (bF HB.out hq_); clear BK121 BK125 HB hq_; have BK121 := n0_; have BK125 := n1_; have HB := n2_; clear n0_ n1_ n2_)); have hnb65 := rP NB121_125 NB125_121; obtain ⟨hcz66, hfz66⟩ := d8 BK121))
                        refine bodyPost_ret (results_ctt rfl _ _ gb121 31 #[.bool false, .int .u8 0, .int .u16 0, .int .u32 0, .int .u64 0, .string (⟨#[]⟩ : ByteArray), .string (⟨#[]⟩ : ByteArray), .string (⟨#[]⟩ : ByteArray)] (0, 0) _ rfl (by (with_reducible repeat (first | refine bN ?_ _ | refine bD ?_ | refine bA ?_ _)); refine blk_put (cs := #[.bool false, .int .u8 0, .int .u16 0, .int .u32 0, .int .u64 0, .string (⟨#[]⟩ : ByteArray), .string (⟨#[]⟩ : ByteArray), .string (⟨#[]⟩ : ByteArray)]) ?_ 7 _ (by first | rfl | (rw [frame_Unpack.ssz (s := a0) (lo := 24) (hi := wrap64 (24 + wrap64 t127)) (by assumption)]; rfl)); (with_reducible repeat (first | refine bN ?_ _ | refine bD ?_ | refine bA ?_ _)); refine blk_put (cs := #[.bool false, .int .u8 0, .int .u16 0, .int .u32 0, .int .u64 0, .string (⟨#[]⟩ : ByteArray), .string (⟨#[]⟩ : ByteArray), .string (⟨#[]⟩ : ByteArray)]) ?_ 6 _ rfl; (with_reducible repeat (first | refine bN ?_ _ | refine bD ?_ | refine bA ?_ _)); refine blk_put (cs := #[.bool false, .int .u8 0, .int .u16 0, .int .u32 0, .int .u64 0, .string (⟨#[]⟩ : ByteArray), .string (⟨#[]⟩ : ByteArray), .string (⟨#[]⟩ : ByteArray)]) ?_ 5 _ rfl; (with_reducible repeat (first | refine bN ?_ _ | refine bD ?_ | refine bA ?_ _)); refine blk_put (cs := #[.bool false, .int .u8 0, .int .u16 0, .int .u32 0, .int .u64 0, .string (⟨#[]⟩ : ByteArray), .string (⟨#[]⟩ : ByteArray), .string (⟨#[]⟩ : ByteArray)]) ?_ 4 _ rfl; (with_reducible repeat (first | refine bN ?_ _ | refine bD ?_ | refine bA ?_ _)); refine blk_put (cs := #[.bool false, .int .u8 0, .int .u16 0, .int .u32 0, .int .u64 0, .string (⟨#[]⟩ : ByteArray), .string (⟨#[]⟩ : ByteArray), .string (⟨#[]⟩ : ByteArray)]) ?_ 3 _ rfl; (with_reducible repeat (first | refine bN ?_ _ | refine bD ?_ | refine bA ?_ _)); refine blk_put (cs := #[.bool false, .int .u8 0, .int .u16 0, .int .u32 0, .int .u64 0, .string (⟨#[]⟩ : ByteArray), .string (⟨#[]⟩ : ByteArray), .string (⟨#[]⟩ : ByteArray)]) ?_ 2 _ rfl; (with_reducible repeat (first | refine bN ?_ _ | refine bD ?_ | refine bA ?_ _)); refine blk_put (cs := #[.bool false, .int .u8 0, .int .u16 0, .int .u32 0, .int .u64 0, .string (⟨#[]⟩ : ByteArray), .string (⟨#[]⟩ : ByteArray), .string (⟨#[]⟩ : ByteArray)]) ?_ 1 _ rfl; (with_reducible repeat (first | refine bN ?_ _ | refine bD ?_ | refine bA ?_ _)); refine blk_put (cs := #[.bool false, .int .u8 0, .int .u16 0, .int .u32 0, .int .u64 0, .string (⟨#[]⟩ : ByteArray), .string (⟨#[]⟩ : ByteArray), .string (⟨#[]⟩ : ByteArray)]) ?_ 0 _ rfl; (with_reducible repeat (first | refine bN ?_ _ | refine bD ?_ | refine bA ?_ _)); exact BK121.out) Try.underlying31 rfl (by kernel_rfl)) rfl ?_
                        exact ⟨xR, bH HB.out⟩
                       ·rw [if_neg c64] at H; have c64b0 : decide ((a0.size : Int) < (wrap64 (24 + (wrap64 (t127))))) = false := decide_eq_false c64; clear c64
                        by_cases c67 : 24 ≤ (wrap64 (24 + (wrap64 (t127))))
                        ·rw [if_pos c67] at H; have c67b0 := eq_true c67; have c67b1 : decide (24 ≤ (wrap64 (24 + (wrap64 (t127))))) = true := decide_eq_true c67
                         by_cases c68 : (wrap64 (24 + (wrap64 (t127)))) ≤ (a0.size : Int)
                         ·rw [if_pos c68] at H; have c68b0 := eq_true c68; have c68b1 : decide ((wrap64 (24 + (wrap64 (t127)))) ≤ (a0.size : Int)) = true := decide_eq_true c68; obtain ⟨ji69, hji69⟩ : ∃ j_ : Int, (wrap64 (bt a0 4)) = j_ := ⟨_, rfl⟩; replace H : (if 0 ≤ (ji69) then (if (ji69) ≤ ((a0.extract 24 ((wrap64 (24 + (wrap64 (t127)))) : Int).toNat).size : Int) then (if (ji69) ≤ (wrap64 ((ji69) + (wrap64 (t126)))) then (if (wrap64 ((ji69) + (wrap64 (t126)))) ≤ ((a0.extract 24 ((wrap64 (24 + (wrap64 (t127)))) : Int).toNat).size : Int) then (if 0 ≤ (wrap64 ((ji69) + (wrap64 (t126)))) then (some (((bt a0 0) == 129), (bt a0 1), (IntKind.u16.wrap (t122)), ((t123) % 4294967296), t124, (a0.extract 24 ((wrap64 (24 + (wrap64 (t127)))) : Int).toNat).extract 0 ((ji69) : Int).toNat, (a0.extract 24 ((wrap64 (24 + (wrap64 (t127)))) : Int).toNat).extract ((ji69) : Int).toNat ((wrap64 ((ji69) + (wrap64 (t126)))) : Int).toNat, (a0.extract 24 ((wrap64 (24 + (wrap64 (t127)))) : Int).toNat).extract ((wrap64 ((ji69) + (wrap64 (t126)))) : Int).toNat (a0.extract 24 ((wrap64 (24 + (wrap64 (t127)))) : Int).toNat).size, wrap64 (24 + (wrap64 (t127))), 0)) else (none)) else (none)) else (none)) else (none)) else (none)) = some (r1, r2, r3, r4, r5, r6, r7, r8, r9, r10) := by first | (rw [hji69] at H; exact H) | (simp only [hji69] at H ⊢; exact H)
                          (try rw [hji69] at A62)
                          have hji69w : (IntKind.i64.wrap (bt a0 4)) = ji69 := (i64_w _).trans hji69
                          by_cases c70 : 0 ≤ (ji69)
                          ·rw [if_pos c70] at H; have c70b0 := eq_true c70; have c70b1 : decide (0 ≤ (ji69)) = true := decide_eq_true c70; clear c70
                           by_cases c71 : (ji69) ≤ ((a0.extract 24 ((wrap64 (24 + (wrap64 (t127)))) : Int).toNat).size : Int)
                           ·rw [if_pos c71] at H; have c71b0 := eq_true c71; have c71b1 : decide ((ji69) ≤ ((a0.extract 24 ((wrap64 (24 + (wrap64 (t127)))) : Int).toNat).size : Int)) = true := decide_eq_true c71; have c71q := frame_Unpack.xsz c71b0 (by assumption); have c72b0 := eq_true (of_decide_eq_true (by first | (with_reducible assumption) | assumption) : 0 ≤ (ji69))
                            by_cases c73 : (ji69) ≤ (wrap64 ((ji69) + (wrap64 (t126))))
                            ·rw [if_pos c73] at H; have c73b0 := eq_true c73; have c73b1 : decide ((ji69) ≤ (wrap64 ((ji69) + (wrap64 (t126))))) = true := decide_eq_true c73
                             by_cases c74 : (wrap64 ((ji69) + (wrap64 (t126)))) ≤ ((a0.extract 24 ((wrap64 (24 + (wrap64 (t127)))) : Int).toNat).size : Int)
                             ·rw [if_pos c74] at H; have c74b0 := eq_true c74; have c74b1 : decide ((wrap64 ((ji69) + (wrap64 (t126)))) ≤ ((a0.extract 24 ((wrap64 (24 + (wrap64 (t127)))) : Int).toNat).size : Int)) = true := decide_eq_true c74; have c74q := frame_Unpack.xsz c74b0 (by assumption); obtain ⟨ji75, hji75⟩ : ∃ j_ : Int, (wrap64 ((ji69) + (wrap64 (t126)))) = j_ := ⟨_, rfl⟩; replace H : (if 0 ≤ (ji75) then (some (((bt a0 0) == 129), (bt a0 1), (IntKind.u16.wrap (t122)), ((t123) % 4294967296), t124, (a0.extract 24 ((wrap64 (24 + (wrap64 (t127)))) : Int).toNat).extract 0 ((ji69) : Int).toNat, (a0.extract 24 ((wrap64 (24 + (wrap64 (t127)))) : Int).toNat).extract ((ji69) : Int).toNat ((ji75) : Int).toNat, (a0.extract 24 ((wrap64 (24 + (wrap64 (t127)))) : Int).toNat).extract ((ji75) : Int).toNat (a0.extract 24 ((wrap64 (24 + (wrap64 (t127)))) : Int).toNat).size, wrap64 (24 + (wrap64 (t127))), 0)) else (none)) = some (r1, r2, r3, r4, r5, r6, r7, r8, r9, r10) := by first | (rw [hji75] at H; exact H) | (simp only [hji75] at H ⊢; exact H)
                              (try rw [hji75] at c73b0)
                              (try rw [hji75] at c73b1)
                              (try rw [hji75] at c73)
                              (try rw [hji75] at c74b0)
                              (try rw [hji75] at c74b1)
                              (try rw [hji75] at c74)
                              (try rw [hji75] at A62)
                              have hji75w : (IntKind.i64.wrap ((ji69) + (wrap64 (t126)))) = ji75 := (i64_w _).trans hji75
                              by_cases c76 : 0 ≤ (ji75)
                              ·rw [if_pos c76] at H; have c76b0 := eq_true c76; have c76b1 : decide (0 ≤ (ji75)) = true := decide_eq_true c76; clear c76; have c77b0 := eq_true (of_decide_eq_true (by first | (with_reducible assumption) | assumption) : (ji75) ≤ ((a0.extract 24 ((wrap64 (24 + (wrap64 (t127)))) : Int).toNat).size : Int)); have c77q := frame_Unpack.xsz c77b0 (by assumption); simp only [Option.some.injEq, Prod.mk.injEq] at H; obtain ⟨rfl, rfl, rfl, rfl, rfl, rfl, rfl, rfl, rfl, rfl⟩ := H
                               try go_wp2_with (first | ((with_reducible refine gate_callee (f := 37) rfl ?_); refine goesL_ (some 80) rfl rfl Try.func37 (by kernel_rfl) rfl #[.int .i64 (wrap64 (t126)), .int .i64 (ji69), .int .i64 (wrap64 ((wrap64 ((wrap64 (t127)) - (wrap64 (t126)))) - (ji69)))] rfl (by (try simp only [List.map_toArray, List.map_cons, List.map_nil]); first | done | (simp only [hji69]; rfl) | rfl | (simp only [List.length_drop, List.length_take]; rfl)) ?_; (with_reducible refine (frame_fits.calls (wrap64 (t126)) (ji69) (wrap64 ((wrap64 ((wrap64 (t127)) - (wrap64 (t126)))) - (ji69))) true _ A62.out).mono ?_); rintro e w' ⟨rfl, ⟨nd, rfl⟩⟩; refine ⟨_, rfl, ?_⟩; (try simp only [World.drewN_drewN]); (try (rw [drewN_self wc]; generalize hq_ : World.drewN wc _ = wc; have n0_ := Aside0.mk (bQ BK121.out hq_); have n1_ := Aside0.mk (bQ BK125.out hq_); have n2_ := Aside0.mk (bF HB.out hq_); clear BK121 BK125 HB hq_; have BK121 := n0_; have BK125 := n1_; have HB := n2_; clear n0_ n1_ n2_))))
                               replace BK121 := Aside0.mk (bD BK121.out); replace BK125 := Aside0.mk (bD BK125.out); replace HB := Aside0.mk (eD HB.out); refine start_ (n := 20) (S := fun w' => True) (ds := []) #[false, false, false, false, false, false, false, false, false, false, false, false, false, false, false, false, false, false, false, false] (by kernel_rfl) rfl rfl trivial (fun hHeld => ?_); refine with_tabW frame_Unpack.tab17 frame_Unpack.bits17 (fun HT_ HW_ => ?_)
                               generalize wc.drew = w78 at BK121 BK125 HB hHeld ⊢; refine pU HT_ 0 (some 94) ?_ #[true, false, false, false, false, false, false, false, false, false, false, false, false, false, false, false, false, false, false, false] rfl rfl ?_ ?_ ?_ ?_
                               rotate_left
                               ·intro w'
                                go_simp
                                with_reducible rfl
                               rotate_left
                               ·simp only [Act.put, sA, sB, sC, i64_w, i32_w]
                                rfl
                               refine pU HT_ 1 (some 95) ?_ #[true, true, false, false, false, false, false, false, false, false, false, false, false, false, false, false, false, false, false, false] rfl rfl ?_ ?_ ?_ ?_
                               rotate_left
                               ·intro w'
                                go_simp
                                with_reducible rfl
                               rotate_left
                               ·simp only [Act.put, sA, sB, sC, i64_w, i32_w]
                                rfl
                               refine pU HT_ 2 (some 96) ?_ #[true, true, true, false, false, false, false, false, false, false, false, false, false, false, false, false, false, false, false, false] rfl rfl ?_ ?_ ?_ ?_
                               rotate_left
                               ·intro w'
                                go_simp
                                with_reducible rfl
                               rotate_left
                               ·simp only [Act.put, sA, sB, sC, i64_w, i32_w]
                                rfl
                               refine pU HT_ 3 (some 97) ?_ #[true, true, true, true, false, false, false, false, false, false, false, false, false, false, false, false, false, false, false, false] rfl rfl ?_ ?_ ?_ ?_
                               rotate_left
                               ·intro w'
                                go_simp
                                with_reducible rfl
                               rotate_left
                               ·simp only [Act.put, sA, sB, sC, i64_w, i32_w]
                                rfl
                               refine pU HT_ 4 (some 98) ?_ #[true, true, true, true, true, false, false, false, false, false, false, false, false, false, false, false, false, false, false, false] rfl rfl ?_ ?_ ?_ ?_
                               rotate_left
                               ·intro w'
                                go_simp
                                with_reducible rfl
                               rotate_left
                               ·simp only [Act.put, sA, sB, sC, i64_w, i32_w]
                                rfl
                               refine pU HT_ 5 (some 99) ?_ #[true, true, true, true, true, true, false, false, false, false, false, false, false, false, false, false, false, false, false, false] rfl rfl ?_ ?_ ?_ ?_
                               rotate_left
                               ·intro w'
                                go_simp
                                with_reducible rfl
                               rotate_left
                               ·simp only [Act.put, sA, sB, sC, i64_w, i32_w]
                                rfl
                               refine pU HT_ 6 (some 100) ?_ #[true, true, true, true, true, true, true, false, false, false, false, false, false, false, false, false, false, false, false, false] rfl rfl ?_ ?_ ?_ ?_
                               rotate_left
                               ·intro w'
                                go_simp
                                with_reducible rfl
                               rotate_left
                               ·simp only [Act.put, sA, sB, sC, i64_w, i32_w]
                                rfl
                               refine pU HT_ 7 (some 101) ?_ #[true, true, true, true, true, true, true, true, false, false, false, false, false, false, false, false, false, false, false, false] rfl rfl ?_ ?_ ?_ ?_
                               rotate_left
                               ·intro w'
                                go_simp
                                with_reducible rfl
                               rotate_left
                               ·simp only [Act.put, sA, sB, sC, i64_w, i32_w]
                                rfl
                               refine pU HT_ 8 (some 102) ?_ #[true, true, true, true, true, true, true, true, true, false, false, false, false, false, false, false, false, false, false, false] rfl rfl ?_ ?_ ?_ ?_
                               rotate_left
                               ·intro w'
                                go_simp
                                with_reducible rfl
                               rotate_left
                               ·simp only [Act.put, sA, sB, sC, i64_w, i32_w]
                                rfl
                               refine pU HT_ 9 (some 103) ?_ #[true, true, true, true, true, true, true, true, true, true, false, false, false, false, false, false, false, false, false, false] rfl rfl ?_ ?_ ?_ ?_
                               rotate_left
                               ·intro w'
                                go_simp
                                with_reducible rfl
                               rotate_left
                               ·simp only [Act.put, sA, sB, sC, i64_w, i32_w]
                                rfl
                               refine pU HT_ 10 (some 104) ?_ #[true, true, true, true, true, true, true, true, true, true, true, false, false, false, false, false, false, false, false, false] rfl rfl ?_ ?_ ?_ ?_
                               rotate_left
                               ·intro w'
                                go_simp
                                with_reducible rfl
                               rotate_left
                               ·simp only [Act.put, sA, sB, sC, i64_w, i32_w]
                                rfl
                               refine pU HT_ 11 (some 105) ?_ #[true, true, true, true, true, true, true, true, true, true, true, true, false, false, false, false, false, false, false, false] rfl rfl ?_ ?_ ?_ ?_
                               rotate_left
                               ·intro w'
                                go_simp
                                with_reducible rfl
                               rotate_left
                               ·simp only [Act.put, sA, sB, sC, i64_w, i32_w]
                                rfl
                               refine pU HT_ 12 (some 106) ?_ #[true, true, true, true, true, true, true, true, true, true, true, true, true, false, false, false, false, false, false, false] rfl rfl ?_ ?_ ?_ ?_
                               rotate_left
                               ·intro w'
                                go_simp
                                with_reducible rfl
                               rotate_left
                               ·simp only [Act.put, sA, sB, sC, i64_w, i32_w]
                                rfl
                               refine pU HT_ 13 (some 107) ?_ #[true, true, true, true, true, true, true, true, true, true, true, true, true, true, false, false, false, false, false, false] rfl rfl ?_ ?_ ?_ ?_
                               rotate_left
                               ·intro w'
                                go_simp
                                with_reducible rfl
                               rotate_left
                               ·simp only [Act.put, sA, sB, sC, i64_w, i32_w]
                                rfl
                               refine pU HT_ 14 (some 108) ?_ #[true, true, true, true, true, true, true, true, true, true, true, true, true, true, true, false, false, false, false, false] rfl rfl ?_ ?_ ?_ ?_
                               rotate_left
                               ·intro w'
                                go_simp
                                with_reducible rfl
                               rotate_left
                               ·simp only [Act.put, sA, sB, sC, i64_w, i32_w]
                                rfl
                               refine one_ (i := 15) (N := none) #[true, true, true, true, true, true, true, true, true, true, true, true, true, true, true, true, false, false, false, false] rfl rfl (one_of HT_.out (by kernel_rfl)) (by decide) (fun K hK => ?_)
                               have hs79 : w78.cell? ⟨gb125, 5, none⟩ = some (.string (⟨#[]⟩ : ByteArray)) := (blk_cell BK125.out 5).trans rfl; have hfs79 := blk_frozen BK125.out 5; have hns79_0 := NB121_125.out; have hms79_0 := NB125_121.out; refine skip_ (w1 := ?_) (by rfl) rfl ?_ ?_
                               rotate_left
                               ·go_simp
                                rfl
                               refine hK.out _ _ trivial (fun hHeld => ?_)
                               clear hK K; refine pU HT_ 16 (some 109) ?_ #[true, true, true, true, true, true, true, true, true, true, true, true, true, true, true, true, true, false, false, false] rfl rfl ?_ ?_ ?_ ?_
                               rotate_left
                               ·intro w'
                                go_simp
                                with_reducible rfl
                               rotate_left
                               ·simp only [Act.put, sA, sB, sC, i64_w, i32_w]
                                rfl
                               refine one_ (i := 17) (N := none) #[true, true, true, true, true, true, true, true, true, true, true, true, true, true, true, true, true, true, false, false] rfl rfl (one_of HT_.out (by kernel_rfl)) (by decide) (fun K hK => ?_)
                               have hs80 : w78.cell? ⟨gb125, 6, none⟩ = some (.string (⟨#[]⟩ : ByteArray)) := (blk_cell BK125.out 6).trans rfl; have hfs80 := blk_frozen BK125.out 6; have hns80_0 := NB121_125.out; have hms80_0 := NB125_121.out; refine skip_ (w1 := ?_) (by rfl) rfl ?_ ?_
                               rotate_left
                               ·go_simp
                                rfl
                               refine hK.out _ _ trivial (fun hHeld => ?_)
                               clear hK K; refine pU HT_ 18 (some 110) ?_ #[true, true, true, true, true, true, true, true, true, true, true, true, true, true, true, true, true, true, true, false] rfl rfl ?_ ?_ ?_ ?_
                               rotate_left
                               ·intro w'
                                go_simp
                                with_reducible rfl
                               rotate_left
                               ·simp only [Act.put, sA, sB, sC, i64_w, i32_w]
                                rfl
                               refine one_ (i := 19) (N := none) #[true, true, true, true, true, true, true, true, true, true, true, true, true, true, true, true, true, true, true, true] rfl rfl (one_of HT_.out (by kernel_rfl)) (by decide) (fun K hK => ?_)
                               have hs81 : w78.cell? ⟨gb125, 7, none⟩ = some (.string (⟨#[]⟩ : ByteArray)) := (blk_cell BK125.out 7).trans rfl; have hfs81 := blk_frozen BK125.out 7; have hns81_0 := NB121_125.out; have hms81_0 := NB125_121.out; refine skip_ (w1 := ?_) (by rfl) rfl ?_ ?_
                               rotate_left
                               ·go_simp
                                rfl
                               refine hK.out _ _ trivial (fun hHeld => ?_)
                               clear hK K; refine done_ (done_of HT_.out (by kernel_rfl)) ?_
                               have hnb82 := rP NB125_121 NB121_125; obtain ⟨hcz83, hfz83⟩ := d8 BK125; obtain ⟨hcz84, hfz84⟩ := d8 BK121
                               try go_wp2
                               refine bodyPost_ret (results_ctt rfl _ _ gb121 31 #[.bool ((bt a0 0) == 129), .int .u8 (bt a0 1), .int .u16 (IntKind.u16.wrap (t122)), .int .u32 ((t123) % 4294967296), .int .u64 t124, .string ((a0.extract 24 ((wrap64 (24 + (wrap64 (t127)))) : Int).toNat).extract 0 ((ji69) : Int).toNat), .string ((a0.extract 24 ((wrap64 (24 + (wrap64 (t127)))) : Int).toNat).extract ((ji69) : Int).toNat ((ji75) : Int).toNat), .string ((a0.extract 24 ((wrap64 (24 + (wrap64 (t127)))) : Int).toNat).extract ((ji75) : Int).toNat (a0.extract 24 ((wrap64 (24 + (wrap64 (t127)))) : Int).toNat).size)] (0, 0) _ rfl (by (with_reducible repeat (first | refine bN ?_ _ | refine bD ?_ | refine bA ?_ _)); refine blk_put (cs := #[.bool ((bt a0 0) == 129), .int .u8 (bt a0 1), .int .u16 (IntKind.u16.wrap (t122)), .int .u32 ((t123) % 4294967296), .int .u64 t124, .string ((a0.extract 24 ((wrap64 (24 + (wrap64 (t127)))) : Int).toNat).extract 0 ((ji69) : Int).toNat), .string ((a0.extract 24 ((wrap64 (24 + (wrap64 (t127)))) : Int).toNat).extract ((ji69) : Int).toNat ((ji75) : Int).toNat), .string (⟨#[]⟩ : ByteArray)]) ?_ 7 _ (by first | rfl | (rw [frame_Unpack.ssz (s := a0) (lo := 24) (hi := wrap64 (24 + wrap64 t127)) (by assumption)]; rfl)); (with_reducible repeat (first | refine bN ?_ _ | refine bD ?_ | refine bA ?_ _)); refine blk_put (cs := #[.bool ((bt a0 0) == 129), .int .u8 (bt a0 1), .int .u16 (IntKind.u16.wrap (t122)), .int .u32 ((t123) % 4294967296), .int .u64 t124, .string ((a0.extract 24 ((wrap64 (24 + (wrap64 (t127)))) : Int).toNat).extract 0 ((ji69) : Int).toNat), .string (⟨#[]⟩ : ByteArray), .string (⟨#[]⟩ : ByteArray)]) ?_ 6 _ rfl; (with_reducible repeat (first | refine bN ?_ _ | refine bD ?_ | refine bA ?_ _)); refine blk_put (cs := #[.bool ((bt a0 0) == 129), .int .u8 (bt a0 1), .int .u16 (IntKind.u16.wrap (t122)), .int .u32 ((t123) % 4294967296), .int .u64 t124, .string (⟨#[]⟩ : ByteArray), .string (⟨#[]⟩ : ByteArray), .string (⟨#[]⟩ : ByteArray)]) ?_ 5 _ rfl; (with_reducible repeat (first | refine bN ?_ _ | refine bD ?_ | refine bA ?_ _)); refine blk_put (cs := #[.bool ((bt a0 0) == 129), .int .u8 (bt a0 1), .int .u16 (IntKind.u16.wrap (t122)), .int .u32 ((t123) % 4294967296), .int .u64 0, .string (⟨#[]⟩ : ByteArray), .string (⟨#[]⟩ : ByteArray), .string (⟨#[]⟩ : ByteArray)]) ?_ 4 _ rfl; (with_reducible repeat (first | refine bN ?_ _ | refine bD ?_ | refine bA ?_ _)); refine blk_put (cs := #[.bool ((bt a0 0) == 129), .int .u8 (bt a0 1), .int .u16 (IntKind.u16.wrap (t122)), .int .u32 0, .int .u64 0, .string (⟨#[]⟩ : ByteArray), .string (⟨#[]⟩ : ByteArray), .string (⟨#[]⟩ : ByteArray)]) ?_ 3 _ rfl; (with_reducible repeat (first | refine bN ?_ _ | refine bD ?_ | refine bA ?_ _)); refine blk_put (cs := #[.bool ((bt a0 0) == 129), .int .u8 (bt a0 1), .int .u16 0, .int .u32 0, .int .u64 0, .string (⟨#[]⟩ : ByteArray), .string (⟨#[]⟩ : ByteArray), .string (⟨#[]⟩ : ByteArray)]) ?_ 2 _ rfl; (with_reducible repeat (first | refine bN ?_ _ | refine bD ?_ | refine bA ?_ _)); refine blk_put (cs := #[.bool ((bt a0 0) == 129), .int .u8 0, .int .u16 0, .int .u32 0, .int .u64 0, .string (⟨#[]⟩ : ByteArray), .string (⟨#[]⟩ : ByteArray), .string (⟨#[]⟩ : ByteArray)]) ?_ 1 _ rfl; (with_reducible repeat (first | refine bN ?_ _ | refine bD ?_ | refine bA ?_ _)); refine blk_put (cs := #[.bool false, .int .u8 0, .int .u16 0, .int .u32 0, .int .u64 0, .string (⟨#[]⟩ : ByteArray), .string (⟨#[]⟩ : ByteArray), .string (⟨#[]⟩ : ByteArray)]) ?_ 0 _ rfl; (with_reducible repeat (first | refine bN ?_ _ | refine bD ?_ | refine bA ?_ _)); refine blk_far ?_ NB121_125.out _; (with_reducible repeat (first | refine bN ?_ _ | refine bD ?_ | refine bA ?_ _)); refine blk_far ?_ NB121_125.out _; (with_reducible repeat (first | refine bN ?_ _ | refine bD ?_ | refine bA ?_ _)); refine blk_far ?_ NB121_125.out _; (with_reducible repeat (first | refine bN ?_ _ | refine bD ?_ | refine bA ?_ _)); exact BK121.out) Try.underlying31 rfl (by kernel_rfl)) rfl ?_
                               exact ⟨by first | rfl | (simp [errW_none, errW_some] <;> rfl) | (simp only [← hji69, ← hji75]; first | rfl | (simp [errW_none, errW_some] <;> rfl)) | (simp [*, errW_none, errW_some] <;> rfl), bH HB.out⟩
                              ·rw [if_neg c76] at H; exact absurd H (by simp)
                             ·rw [if_neg c74] at H; exact absurd H (by simp)
                            ·rw [if_neg c73] at H; exact absurd H (by simp)
                           ·rw [if_neg c71] at H; exact absurd H (by simp)
                          ·rw [if_neg c70] at H; exact absurd H (by simp)
                         ·rw [if_neg c68] at H; exact absurd H (by simp)
                        ·rw [if_neg c67] at H; exact absurd H (by simp)
                      ·replace c63 := Bool.eq_false_iff.mpr c63; subst c63; rw [if_neg (show ¬ (false = true) by decide)] at H; simp only [Option.some.injEq, Prod.mk.injEq] at H; obtain ⟨rfl, rfl, rfl, rfl, rfl, rfl, rfl, rfl, rfl, rfl⟩ := H
                       go_wp2_with (first | ((with_reducible refine gate_callee (f := 37) rfl ?_); refine gL (some 80) rfl rfl Try.func37 #[.int .i64 (wrap64 (t126)), .int .i64 (wrap64 (bt a0 4)), .int .i64 (wrap64 ((wrap64 ((wrap64 (t127)) - (wrap64 (t126)))) - (wrap64 (bt a0 4))))] rfl ?_; (with_reducible refine (frame_fits.calls (wrap64 (t126)) (wrap64 (bt a0 4)) (wrap64 ((wrap64 ((wrap64 (t127)) - (wrap64 (t126)))) - (wrap64 (bt a0 4)))) false _ A62.out).mono ?_); rintro e w' ⟨rfl, ⟨nd, rfl⟩⟩; refine ⟨_, rfl, ?_⟩; (try simp only [World.drewN_drewN]); (try (rw [drewN_self wc]; generalize hq_ : World.drewN wc _ = wc; have n0_ := Aside0.mk (bQ BK121.out hq_); have n1_ := Aside0.mk (bQ BK125.out hq_); have n2_ := Aside0.mk (bF HB.out hq_); clear BK121 BK125 HB hq_; have BK121 := n0_; have BK125 := n1_; have HB := n2_; clear n0_ n1_ n2_)); have hnb85 := rP NB121_125 NB125_121; obtain ⟨hcz86, hfz86⟩ := d8 BK121))
                       refine bodyPost_ret (results_ctt rfl _ _ gb121 31 #[.bool false, .int .u8 0, .int .u16 0, .int .u32 0, .int .u64 0, .string (⟨#[]⟩ : ByteArray), .string (⟨#[]⟩ : ByteArray), .string (⟨#[]⟩ : ByteArray)] (0, 0) _ rfl (by (with_reducible repeat (first | refine bN ?_ _ | refine bD ?_ | refine bA ?_ _)); refine blk_put (cs := #[.bool false, .int .u8 0, .int .u16 0, .int .u32 0, .int .u64 0, .string (⟨#[]⟩ : ByteArray), .string (⟨#[]⟩ : ByteArray), .string (⟨#[]⟩ : ByteArray)]) ?_ 7 _ (by first | rfl | (rw [frame_Unpack.ssz (s := a0) (lo := 24) (hi := wrap64 (24 + wrap64 t127)) (by assumption)]; rfl)); (with_reducible repeat (first | refine bN ?_ _ | refine bD ?_ | refine bA ?_ _)); refine blk_put (cs := #[.bool false, .int .u8 0, .int .u16 0, .int .u32 0, .int .u64 0, .string (⟨#[]⟩ : ByteArray), .string (⟨#[]⟩ : ByteArray), .string (⟨#[]⟩ : ByteArray)]) ?_ 6 _ rfl; (with_reducible repeat (first | refine bN ?_ _ | refine bD ?_ | refine bA ?_ _)); refine blk_put (cs := #[.bool false, .int .u8 0, .int .u16 0, .int .u32 0, .int .u64 0, .string (⟨#[]⟩ : ByteArray), .string (⟨#[]⟩ : ByteArray), .string (⟨#[]⟩ : ByteArray)]) ?_ 5 _ rfl; (with_reducible repeat (first | refine bN ?_ _ | refine bD ?_ | refine bA ?_ _)); refine blk_put (cs := #[.bool false, .int .u8 0, .int .u16 0, .int .u32 0, .int .u64 0, .string (⟨#[]⟩ : ByteArray), .string (⟨#[]⟩ : ByteArray), .string (⟨#[]⟩ : ByteArray)]) ?_ 4 _ rfl; (with_reducible repeat (first | refine bN ?_ _ | refine bD ?_ | refine bA ?_ _)); refine blk_put (cs := #[.bool false, .int .u8 0, .int .u16 0, .int .u32 0, .int .u64 0, .string (⟨#[]⟩ : ByteArray), .string (⟨#[]⟩ : ByteArray), .string (⟨#[]⟩ : ByteArray)]) ?_ 3 _ rfl; (with_reducible repeat (first | refine bN ?_ _ | refine bD ?_ | refine bA ?_ _)); refine blk_put (cs := #[.bool false, .int .u8 0, .int .u16 0, .int .u32 0, .int .u64 0, .string (⟨#[]⟩ : ByteArray), .string (⟨#[]⟩ : ByteArray), .string (⟨#[]⟩ : ByteArray)]) ?_ 2 _ rfl; (with_reducible repeat (first | refine bN ?_ _ | refine bD ?_ | refine bA ?_ _)); refine blk_put (cs := #[.bool false, .int .u8 0, .int .u16 0, .int .u32 0, .int .u64 0, .string (⟨#[]⟩ : ByteArray), .string (⟨#[]⟩ : ByteArray), .string (⟨#[]⟩ : ByteArray)]) ?_ 1 _ rfl; (with_reducible repeat (first | refine bN ?_ _ | refine bD ?_ | refine bA ?_ _)); refine blk_put (cs := #[.bool false, .int .u8 0, .int .u16 0, .int .u32 0, .int .u64 0, .string (⟨#[]⟩ : ByteArray), .string (⟨#[]⟩ : ByteArray), .string (⟨#[]⟩ : ByteArray)]) ?_ 0 _ rfl; (with_reducible repeat (first | refine bN ?_ _ | refine bD ?_ | refine bA ?_ _)); exact BK121.out) Try.underlying31 rfl (by kernel_rfl)) rfl ?_
                       exact ⟨xR, bH HB.out⟩
                  ·rw [if_neg c34] at H; exact absurd H (by simp)
                 ·rw [if_neg c32] at H; exact absurd H (by simp)
                ·rw [if_neg c31] at H; exact absurd H (by simp)
               ·rw [if_neg c29] at H; exact absurd H (by simp)
              ·rw [if_neg c27] at H; exact absurd H (by simp)
             ·rw [if_neg c26] at H; exact absurd H (by simp)
            ·rw [if_neg c24] at H; exact absurd H (by simp)
           ·rw [if_neg c23] at H; exact absurd H (by simp)
          ·rw [if_neg c21] at H; exact absurd H (by simp)
         ·rw [if_neg c20] at H; exact absurd H (by simp)
        ·rw [if_neg c18] at H; exact absurd H (by simp)
       ·rw [if_neg c17] at H; exact absurd H (by simp)
      ·rw [if_neg c15] at H; exact absurd H (by simp)
     ·rw [if_neg c13] at H; exact absurd H (by simp)

end Go.Proofs.Ytdepkgikdmlgiaa.P
