/- Lean functions for the Go functions that the laws of this seat use, and the proofs that the Go code computes them; conditions: the readings that each theorem names. Written by a program. -/
import Derived.Test.YtbfgopinbpbddaaDoorPx0
import Derived.Test.YtbfgopinbpbddaaDoorPx14
import Derived.Test.YtbfgopinbpbddaaDoorPx15
import Derived.Test.YtbfgopinbpbddaaDoorPx16
import Derived.Test.YtbfgopinbpbddaaDoorPx17
import Derived.Test.YtbfgopinbpbddaaDoorShort
namespace Go.Proofs.YtbfgopinbpbddaaDoor.P
open Go.RowKit Go.Proofs.YtbfgopinbpbddaaDoorW.PrintWords Go.Proofs.YtbfgopinbpbddaaDoorW.PrintLast Go.Proofs.YtbfgopinbpbddaaDoorW.PrintMore
set_option linter.unusedVariables false
set_option linter.unusedSimpArgs false

/-! ### tallboyref17_Write: function 11 -/
set_option maxHeartbeats 8000000 in
set_option maxRecDepth 100000 in
theorem tallboyref17_Write.calls (k : Nat) (a0_0 : Int) (A0_1 : Option Addr) (c0_1 : Nat) (l0_1 : List ByteArray) (a0_2 : Int) (a0_3 : Int) (a0_4 : ByteArray) (a0_5 : Int) (a0_6 : Int) (a0_7 : Bool) (r1 : ByteArray) (r2 : Int) (w : World) (hr0_1 : Kd.C Kd.string w A0_1 l0_1.length l0_1) (hc0_1 : l0_1.length ≤ c0_1) (h : tallboyref17_Write.f k a0_0 l0_1 a0_2 a0_3 a0_4 a0_5 a0_6 a0_7 = some (r1, r2)) :
  Calls Tryd.prog 11 #[.agg #[.int .i64 a0_0, .slice A0_1 l0_1.length c0_1, .int .u32 a0_2, .int .i64 a0_3, .string a0_4, .int .u64 a0_5, .int .u64 a0_6, .bool a0_7]] w fun e w' => e = .returned (.tuple #[.string r1, .int .i64 r2]) ∧ Below w.heap.size w w' := by
 have hu26 := Tryd.underlying26; have HR0_1 := Aside0.mk hr0_1; have HC0_1 := Aside0.mk hc0_1; clear hr0_1 hc0_1; have HB := Aside0.mk (Below.refl w.heap.size w); have H : ((tallboyref15_Check.f k a0_0 l0_1 a0_2 a0_3 a0_4 a0_5 a0_6 a0_7).bind fun t185 => (if t185 = 0 then ((tallboyref15_Name.f a0_0).bind fun t186 => (if a0_0 = 3 then (tallboyref17_Write.j0 k t186 true a0_0 l0_1 a0_2 a0_3 a0_4 a0_5 a0_6 a0_7) else (tallboyref17_Write.j0 k t186 (a0_0 == 4) a0_0 l0_1 a0_2 a0_3 a0_4 a0_5 a0_6 a0_7))) else (some ((⟨#[]⟩ : ByteArray), t185)))) = some (r1, r2) := h; clear h; replace H := Option.bind_eq_some_iff.mp H; obtain ⟨t185, A20, H⟩ := H; (try dsimp only at H); have A2 := Aside0.mk A20; clear A20
 by_cases c3 : t185 = 0
 ·rw [if_pos c3] at H; have c3b0 : (t185 == 0) = true := beq_iff_eq.mpr c3; have c3b1 : (t185 != 0) = false := bne_eq_false_iff_eq.mpr c3; clear c3; replace H := Option.bind_eq_some_iff.mp H; obtain ⟨t186, A40, H⟩ := H; (try dsimp only at H); have A4 := Aside0.mk A40; clear A40; have HC5 := Aside0.mk H; clear H; go_enter Tryd.func11, Tryd.ntmps11
  go_upto_region 5 with (first | ((with_reducible refine gate_dst (N := 1) rfl ?_); refine bE 1 #[.int .i64 a0_0, .slice A0_1 l0_1.length c0_1, .int .u32 a0_2, .int .i64 a0_3, .string a0_4, .int .u64 a0_5, .int .u64 a0_6, .bool a0_7] 26 rfl rfl ?_; intro gb184 hg w6 hbox hb; have BK184 := rM hbox; have GW184 := rG HB hg; replace HB := rS HB hb; have GE184 := GW184; clear hb hbox hg; obtain ⟨hcz7, hfz7⟩ := d8 BK184) | ((with_reducible refine gate_callee (f := 22) rfl ?_); refine goesL_ (some 8) rfl rfl Tryd.func22 (by kernel_rfl) rfl #[.agg #[.int .i64 a0_0, .slice A0_1 l0_1.length c0_1, .int .u32 a0_2, .int .i64 a0_3, .string a0_4, .int .u64 a0_5, .int .u64 a0_6, .bool a0_7]] rfl (by (try simp only [List.map_toArray, List.map_cons, List.map_nil]); first | done | rfl | (simp only [List.length_drop, List.length_take]; rfl)) ?_; (with_reducible refine (tallboyref15_Check.calls k a0_0 _ _ l0_1 a0_2 a0_3 a0_4 a0_5 a0_6 a0_7 t185 _ ?side1 ?side2 A2.out).mono ?_); (case side1 => repeat (first | exact (Kd.C_below HR0_1.out HB.out) | (with_reducible refine Kd.C_alloc ?_ _) | (with_reducible refine Kd.C_drewN ?_ _) | (with_reducible refine Kd.C_drew ?_))); (case side2 => exact HC0_1.out); rintro e w8 ⟨rfl, hb⟩; refine ⟨_, rfl, ?_⟩; replace BK184 := rB BK184 hb; replace HB := rS HB hb; (try clear hb); obtain ⟨hcz9, hfz9⟩ := d8 BK184) | ((with_reducible refine gate_callee (f := 30) rfl ?_); refine goesL_ (some 14) rfl rfl Tryd.func30 (by kernel_rfl) rfl #[.int .i64 a0_0] rfl (by (try simp only [List.map_toArray, List.map_cons, List.map_nil]); first | done | rfl | (simp only [List.length_drop, List.length_take]; rfl)) ?_; (with_reducible refine (tallboyref15_Name.calls a0_0 t186 _ A4.out).mono ?_); rintro e w10 ⟨rfl, hb⟩; refine ⟨_, rfl, ?_⟩; replace BK184 := rB BK184 hb; replace HB := rS HB hb; (try clear hb); ))
  (try simp only [Act.put, sA, sB, sC])
  go_cut [22] (fun v22 wc => ∃ (kq : Nat) (x22_4 : Bool), v22 = .bool x22_4 ∧ Aside0 (tallboyref17_Write.j0 kq t186 x22_4 a0_0 l0_1 a0_2 a0_3 a0_4 a0_5 a0_6 a0_7 = some (r1, r2)) ∧ Aside0 (kq ≤ k) ∧ Aside0 (wc.heap[gb184]? = some (.cells #[.int .i64 a0_0, (.slice A0_1 l0_1.length c0_1), .int .u32 a0_2, .int .i64 a0_3, .string a0_4, .int .u64 a0_5, .int .u64 a0_6, .bool a0_7] 26 (0, 0))) ∧ Aside0 (Below w.heap.size w wc))
  case first =>
   have H := HC5.out; clear HC5
   by_cases c11 : a0_0 = 3
   ·rw [if_pos c11] at H; have c11b0 : (a0_0 == 3) = true := beq_iff_eq.mpr c11; have c11b1 : (a0_0 != 3) = false := bne_eq_false_iff_eq.mpr c11; clear c11
    (first | rw [c11b0] | (simp only [i64_w, i32_w]; rw [c11b0]) | skip)
    have H' := Aside0.mk H; clear H; obtain ⟨hcz12, hfz12⟩ := d8 BK184; go_wp2
    go_meet
    case rel => exact ⟨_, (true), (by first | rfl | (simp; done) | (simp [*]; done)), H', ⟨by first | omega | exact Nat.le_refl _⟩, ⟨bK BK184.out⟩, ⟨bH HB.out⟩⟩
   ·rw [if_neg c11] at H; have c11b0 : (a0_0 == 3) = false := beq_eq_false_iff_ne.mpr c11; have c11b1 : (a0_0 != 3) = true := bne_iff_ne.mpr c11
    (first | rw [c11b0] | (simp only [i64_w, i32_w]; rw [c11b0]) | skip)
    have H' := Aside0.mk H; clear H; obtain ⟨hcz13, hfz13⟩ := d8 BK184; go_wp2
    go_meet
    case rel => exact ⟨_, ((a0_0 == 4)), (by first | rfl | (simp; done) | (simp [*]; done)), H', ⟨by first | omega | exact Nat.le_refl _⟩, ⟨bK BK184.out⟩, ⟨bH HB.out⟩⟩
  case rest =>
   clear HC5; (try clear c3); (try clear c3b0); (try clear c3b1); (try clear c11); (try clear c11b0); (try clear c11b1); (try clear hcz12); (try clear hcz13); (try clear hcz7); (try clear hcz9); (try clear hfz12); (try clear hfz13); (try clear hfz7); (try clear hfz9); obtain ⟨kq, x22_4, rfl, HA, HJ4, BK184, HB⟩ := hcut; cases kq with
   | zero => exact absurd HA.out (by simp [tallboyref17_Write.j0])
   | succ kj4 =>
    have H := HA.out; clear HA; simp only [tallboyref17_Write.j0] at H; have HC14 := Aside0.mk H; clear H
    go_upto_if 22 with (fail)
    go_cut [5] (fun v5 wc => ∃ (kq : Nat) (x5_13 : ByteArray), v5 = .string x5_13 ∧ Aside0 (tallboyref17_Write.j1 kq x5_13 a0_0 l0_1 a0_2 a0_3 a0_4 a0_5 a0_6 a0_7 = some (r1, r2)) ∧ Aside0 (kq ≤ kj4) ∧ Aside0 (wc.heap[gb184]? = some (.cells #[.int .i64 a0_0, (.slice A0_1 l0_1.length c0_1), .int .u32 a0_2, .int .i64 a0_3, .string a0_4, .int .u64 a0_5, .int .u64 a0_6, .bool a0_7] 26 (0, 0))) ∧ Aside0 (Below w.heap.size w wc))
    case first =>
     have H := HC14.out; clear HC14
     by_cases c15 : x22_4 = true
     ·subst c15; rw [if_pos rfl] at H
      by_cases c16 : t186.size + 1 ≤ 9223372036854775807
      ·rw [if_pos c16] at H; have c16b0 := eq_true c16; have c16b1 : decide (t186.size + 1 ≤ 9223372036854775807) = true := decide_eq_true c16
       try have c16b2 : (9223372036854775807 < t186.size + 1) = False := eq_false (Nat.not_lt.2 c16)
       replace H := Option.bind_eq_some_iff.mp H; obtain ⟨t187, A170, H⟩ := H; (try dsimp only at H); have A17 := Aside0.mk A170; clear A170
       by_cases c18 : (t186 ++ (⟨#[32]⟩ : ByteArray)).size + t187.size ≤ 9223372036854775807
       ·rw [if_pos c18] at H; have c18b0 := eq_true c18; have c18b1 : decide ((t186 ++ (⟨#[32]⟩ : ByteArray)).size + t187.size ≤ 9223372036854775807) = true := decide_eq_true c18
        try have c18b2 : (9223372036854775807 < (t186 ++ (⟨#[32]⟩ : ByteArray)).size + t187.size) = False := eq_false (Nat.not_lt.2 c18)
        try (have c18b3 := c18b2; simp only [ByteArray.size_append, show (⟨#[32]⟩ : ByteArray).size = 1 from rfl] at c18b3)
        have H' := Aside0.mk H; clear H; obtain ⟨hcz19, hfz19⟩ := d8 BK184
        go_wp2_with (first | ((with_reducible refine gate_callee (f := 31) rfl ?_); refine goesL_ (some 27) rfl rfl Tryd.func31 (by kernel_rfl) rfl #[.int .i64 a0_3] rfl (by (try simp only [List.map_toArray, List.map_cons, List.map_nil]); first | done | rfl | (simp only [List.length_drop, List.length_take]; rfl)) ?_; (with_reducible refine (tallboyref02_TextSigned.calls kj4 a0_3 t187 _ A17.out).mono ?_); rintro e w20 ⟨rfl, hb⟩; refine ⟨_, rfl, ?_⟩; replace BK184 := rB BK184 hb; replace HB := rS HB hb; (try clear hb); ))
        go_meet
        case rel => exact ⟨_, ((t186 ++ (⟨#[32]⟩ : ByteArray)) ++ t187), (by first | rfl | (simp; done) | (simp [*]; done)), H', ⟨by have := HJ4.out; first | omega | exact Nat.le_refl _⟩, ⟨bK BK184.out⟩, ⟨bH HB.out⟩⟩
       ·rw [if_neg c18] at H; exact absurd H (by simp)
      ·rw [if_neg c16] at H; exact absurd H (by simp)
     ·replace c15 := Bool.eq_false_iff.mpr c15; subst c15; rw [if_neg (show ¬ (false = true) by decide)] at H; have H' := Aside0.mk H; clear H; go_wp2
      go_meet
      case rel => exact ⟨_, (t186), (by first | rfl | (simp; done) | (simp [*]; done)), H', ⟨by have := HJ4.out; first | omega | exact Nat.le_refl _⟩, ⟨bK BK184.out⟩, ⟨bH HB.out⟩⟩
    case rest =>
     clear HC14; (try clear c3); (try clear c3b0); (try clear c3b1); (try clear c11); (try clear c11b0); (try clear c11b1); (try clear c15); (try clear c16); (try clear c16b0); (try clear c16b1); (try clear c16b2); (try clear c18); (try clear c18b0); (try clear c18b1); (try clear c18b2); (try clear hcz12); (try clear hcz13); (try clear hcz19); (try clear hcz7); (try clear hcz9); (try clear hfz12); (try clear hfz13); (try clear hfz19); (try clear hfz7); (try clear hfz9); obtain ⟨kq, x5_13, rfl, HA, HJ13, BK184, HB⟩ := hcut; cases kq with
     | zero => exact absurd HA.out (by simp [tallboyref17_Write.j1])
     | succ kj13 =>
      have H := HA.out; clear HA; simp only [tallboyref17_Write.j1] at H; have H' := Aside0.mk H; clear H; go_wp2
      go_loopg [5, 6] kj13 (fun kq v5 v6 w' => ∃ (x5_3 : ByteArray) (x6_3 : Int), v5 = .string x5_3 ∧ v6 = .int .i64 x6_3 ∧ Aside0 (tallboyref17_Write.l0 kq x5_3 x6_3 a0_0 l0_1 a0_2 a0_3 a0_4 a0_5 a0_6 a0_7 = some (r1, r2)) ∧ Aside0 (kq ≤ kj13) ∧ Aside0 (w'.heap[gb184]? = some (.cells #[.int .i64 a0_0, (.slice A0_1 l0_1.length c0_1), .int .u32 a0_2, .int .i64 a0_3, .string a0_4, .int .u64 a0_5, .int .u64 a0_6, .bool a0_7] 26 (0, 0))) ∧ Aside0 (Below w.heap.size w w'))
      case atStart => exact ⟨(x5_13), (0), (by first | rfl | (simp; done) | (simp [*]; done)), (by first | rfl | (simp; done) | (simp [*]; done)), H', ⟨Nat.le_refl _⟩, ⟨bK BK184.out⟩, ⟨bH HB.out⟩⟩
      case round =>
       clear H'; (try clear c3); (try clear c3b0); (try clear c3b1); (try clear c11); (try clear c11b0); (try clear c11b1); (try clear c15); (try clear c16); (try clear c16b0); (try clear c16b1); (try clear c16b2); (try clear c18); (try clear c18b0); (try clear c18b1); (try clear c18b2); (try clear hcz12); (try clear hcz13); (try clear hcz19); (try clear hcz7); (try clear hcz9); (try clear hfz12); (try clear hfz13); (try clear hfz19); (try clear hfz7); (try clear hfz9); obtain ⟨x5_3, x6_3, rfl, rfl, HA, HK3, BK184, HB⟩ := hrel; cases gk with
       | zero => exact absurd HA.out (by simp [tallboyref17_Write.l0])
       | succ k3 =>
        have H := HA.out; clear HA; simp only [tallboyref17_Write.l0] at H
        by_cases c21 : x6_3 < (l0_1.length : Int)
        ·rw [if_pos c21] at H; have c21b0 : decide (x6_3 < (l0_1.length : Int)) = true := decide_eq_true c21; clear c21
         by_cases c22 : x5_3.size + 1 ≤ 9223372036854775807
         ·rw [if_pos c22] at H; have c22b0 := eq_true c22; have c22b1 : decide (x5_3.size + 1 ≤ 9223372036854775807) = true := decide_eq_true c22
          try have c22b2 : (9223372036854775807 < x5_3.size + 1) = False := eq_false (Nat.not_lt.2 c22)
          by_cases c23 : 0 ≤ x6_3
          ·rw [if_pos c23] at H; have c23b0 : decide (0 ≤ x6_3) = true := decide_eq_true c23; clear c23
           by_cases c24 : (x5_3 ++ (⟨#[32]⟩ : ByteArray)).size + (rdOf ByteArray.empty l0_1 x6_3).size ≤ 9223372036854775807
           ·rw [if_pos c24] at H; have c24b0 := eq_true c24; have c24b1 : decide ((x5_3 ++ (⟨#[32]⟩ : ByteArray)).size + (rdOf ByteArray.empty l0_1 x6_3).size ≤ 9223372036854775807) = true := decide_eq_true c24
            try have c24b2 : (9223372036854775807 < (x5_3 ++ (⟨#[32]⟩ : ByteArray)).size + (rdOf ByteArray.empty l0_1 x6_3).size) = False := eq_false (Nat.not_lt.2 c24)
            try (have c24b3 := c24b2; simp only [ByteArray.size_append, show (⟨#[32]⟩ : ByteArray).size = 1 from rfl] at c24b3)
            have H' := Aside0.mk H; clear H; obtain ⟨hcz25, hfz25⟩ := d8 BK184; have p188 : 0 ≤ (x6_3 : Int) := of_decide_eq_true (by first | (with_reducible assumption) | assumption); have q188 : x6_3 < (l0_1.length : Int) := of_decide_eq_true (by first | (with_reducible assumption) | assumption)
            obtain ⟨ad188, e188, hx188_0⟩ := Kd.at_string HR0_1.out x6_3 p188 q188; cases e188; replace hx188_0 := (HB.out.cell (World.block_lt_of_cell? w _ hx188_0)).trans hx188_0; replace p188 := eq_true p188; replace q188 := eq_true q188; go_wp2
            go_roundg k3
            case measure => have := HJ4.out; have := HJ13.out; have := HK3.out; omega
            case rel => exact ⟨((x5_3 ++ (⟨#[32]⟩ : ByteArray)) ++ (rdOf ByteArray.empty l0_1 x6_3)), (wrap64 (x6_3 + 1)), (by first | rfl | (simp; done) | (simp [*]; done)), (by first | rfl | (simp; done) | (simp [*]; done)), H', ⟨by have := HJ4.out; have := HJ13.out; have := HK3.out; omega⟩, ⟨bK BK184.out⟩, ⟨bH HB.out⟩⟩
           ·rw [if_neg c24] at H; exact absurd H (by simp)
          ·rw [if_neg c23] at H; exact absurd H (by simp)
         ·rw [if_neg c22] at H; exact absurd H (by simp)
        ·rw [if_neg c21] at H; have c21b0 : decide (x6_3 < (l0_1.length : Int)) = false := decide_eq_false c21; clear c21; have HC26 := Aside0.mk H; clear H; obtain ⟨hcz27, hfz27⟩ := d8 BK184
         go_upto_block 2 with (fail)
         go_cut [5] (fun v5 wc => ∃ (kq : Nat) (x5_25 : ByteArray), v5 = .string x5_25 ∧ Aside0 (tallboyref17_Write.j3 kq x5_25 a0_0 l0_1 a0_2 a0_3 a0_4 a0_5 a0_6 a0_7 = some (r1, r2)) ∧ Aside0 (kq ≤ k3) ∧ Aside0 (wc.heap[gb184]? = some (.cells #[.int .i64 a0_0, (.slice A0_1 l0_1.length c0_1), .int .u32 a0_2, .int .i64 a0_3, .string a0_4, .int .u64 a0_5, .int .u64 a0_6, .bool a0_7] 26 (0, 0))) ∧ Aside0 (Below w.heap.size w wc))
         case first =>
          have H := HC26.out; clear HC26; replace H := Option.bind_eq_some_iff.mp H; obtain ⟨t189, A280, H⟩ := H; (try dsimp only at H)
          have A28 := Aside0.mk A280; clear A280
          by_cases c29 : t189 = true
          ·subst c29; rw [if_pos rfl] at H
           by_cases c30 : x5_3.size + 1 ≤ 9223372036854775807
           ·rw [if_pos c30] at H; have c30b0 := eq_true c30; have c30b1 : decide (x5_3.size + 1 ≤ 9223372036854775807) = true := decide_eq_true c30
            try have c30b2 : (9223372036854775807 < x5_3.size + 1) = False := eq_false (Nat.not_lt.2 c30)
            replace H := Option.bind_eq_some_iff.mp H; obtain ⟨t190, A310, H⟩ := H; (try dsimp only at H); have A31 := Aside0.mk A310; clear A310
            by_cases c32 : (x5_3 ++ (⟨#[32]⟩ : ByteArray)).size + t190.size ≤ 9223372036854775807
            ·rw [if_pos c32] at H; have c32b0 := eq_true c32; have c32b1 : decide ((x5_3 ++ (⟨#[32]⟩ : ByteArray)).size + t190.size ≤ 9223372036854775807) = true := decide_eq_true c32
             try have c32b2 : (9223372036854775807 < (x5_3 ++ (⟨#[32]⟩ : ByteArray)).size + t190.size) = False := eq_false (Nat.not_lt.2 c32)
             try (have c32b3 := c32b2; simp only [ByteArray.size_append, show (⟨#[32]⟩ : ByteArray).size = 1 from rfl] at c32b3)
             by_cases c33 : ((x5_3 ++ (⟨#[32]⟩ : ByteArray)) ++ t190).size + 1 ≤ 9223372036854775807
             ·rw [if_pos c33] at H; have c33b0 := eq_true c33; have c33b1 : decide (((x5_3 ++ (⟨#[32]⟩ : ByteArray)) ++ t190).size + 1 ≤ 9223372036854775807) = true := decide_eq_true c33
              try have c33b2 : (9223372036854775807 < ((x5_3 ++ (⟨#[32]⟩ : ByteArray)) ++ t190).size + 1) = False := eq_false (Nat.not_lt.2 c33)
              try (have c33b3 := c33b2; simp only [ByteArray.size_append, show (⟨#[32]⟩ : ByteArray).size = 1 from rfl] at c33b3)
              replace H := Option.bind_eq_some_iff.mp H; obtain ⟨t191, A340, H⟩ := H; (try dsimp only at H); have A34 := Aside0.mk A340; clear A340
              by_cases c35 : (((x5_3 ++ (⟨#[32]⟩ : ByteArray)) ++ t190) ++ (⟨#[32]⟩ : ByteArray)).size + t191.size ≤ 9223372036854775807
              ·rw [if_pos c35] at H; have c35b0 := eq_true c35; have c35b1 : decide ((((x5_3 ++ (⟨#[32]⟩ : ByteArray)) ++ t190) ++ (⟨#[32]⟩ : ByteArray)).size + t191.size ≤ 9223372036854775807) = true := decide_eq_true c35
               try have c35b2 : (9223372036854775807 < (((x5_3 ++ (⟨#[32]⟩ : ByteArray)) ++ t190) ++ (⟨#[32]⟩ : ByteArray)).size + t191.size) = False := eq_false (Nat.not_lt.2 c35)
               try (have c35b3 := c35b2; simp only [ByteArray.size_append, show (⟨#[32]⟩ : ByteArray).size = 1 from rfl] at c35b3)
               by_cases c36 : ((((x5_3 ++ (⟨#[32]⟩ : ByteArray)) ++ t190) ++ (⟨#[32]⟩ : ByteArray)) ++ t191).size + 1 ≤ 9223372036854775807
               ·rw [if_pos c36] at H; have c36b0 := eq_true c36; have c36b1 : decide (((((x5_3 ++ (⟨#[32]⟩ : ByteArray)) ++ t190) ++ (⟨#[32]⟩ : ByteArray)) ++ t191).size + 1 ≤ 9223372036854775807) = true := decide_eq_true c36
                try have c36b2 : (9223372036854775807 < ((((x5_3 ++ (⟨#[32]⟩ : ByteArray)) ++ t190) ++ (⟨#[32]⟩ : ByteArray)) ++ t191).size + 1) = False := eq_false (Nat.not_lt.2 c36)
                try (have c36b3 := c36b2; simp only [ByteArray.size_append, show (⟨#[32]⟩ : ByteArray).size = 1 from rfl] at c36b3)
                replace H := Option.bind_eq_some_iff.mp H; obtain ⟨t192, A370, H⟩ := H; (try dsimp only at H); have A37 := Aside0.mk A370; clear A370
                by_cases c38 : (((((x5_3 ++ (⟨#[32]⟩ : ByteArray)) ++ t190) ++ (⟨#[32]⟩ : ByteArray)) ++ t191) ++ (⟨#[32]⟩ : ByteArray)).size + t192.size ≤ 9223372036854775807
                ·rw [if_pos c38] at H; have c38b0 := eq_true c38; have c38b1 : decide ((((((x5_3 ++ (⟨#[32]⟩ : ByteArray)) ++ t190) ++ (⟨#[32]⟩ : ByteArray)) ++ t191) ++ (⟨#[32]⟩ : ByteArray)).size + t192.size ≤ 9223372036854775807) = true := decide_eq_true c38
                 try have c38b2 : (9223372036854775807 < (((((x5_3 ++ (⟨#[32]⟩ : ByteArray)) ++ t190) ++ (⟨#[32]⟩ : ByteArray)) ++ t191) ++ (⟨#[32]⟩ : ByteArray)).size + t192.size) = False := eq_false (Nat.not_lt.2 c38)
                 try (have c38b3 := c38b2; simp only [ByteArray.size_append, show (⟨#[32]⟩ : ByteArray).size = 1 from rfl] at c38b3)
                 by_cases c39 : a0_0 = 10
                 ·rw [if_pos c39] at H; have c39b0 : (a0_0 == 10) = true := beq_iff_eq.mpr c39; have c39b1 : (a0_0 != 10) = false := bne_eq_false_iff_eq.mpr c39; clear c39
                  (first | rw [c39b0] | (simp only [i64_w, i32_w]; rw [c39b0]) | skip)
                  by_cases c40 : ((((((x5_3 ++ (⟨#[32]⟩ : ByteArray)) ++ t190) ++ (⟨#[32]⟩ : ByteArray)) ++ t191) ++ (⟨#[32]⟩ : ByteArray)) ++ t192).size + 1 ≤ 9223372036854775807
                  ·rw [if_pos c40] at H; have c40b0 := eq_true c40; have c40b1 : decide (((((((x5_3 ++ (⟨#[32]⟩ : ByteArray)) ++ t190) ++ (⟨#[32]⟩ : ByteArray)) ++ t191) ++ (⟨#[32]⟩ : ByteArray)) ++ t192).size + 1 ≤ 9223372036854775807) = true := decide_eq_true c40
                   try have c40b2 : (9223372036854775807 < ((((((x5_3 ++ (⟨#[32]⟩ : ByteArray)) ++ t190) ++ (⟨#[32]⟩ : ByteArray)) ++ t191) ++ (⟨#[32]⟩ : ByteArray)) ++ t192).size + 1) = False := eq_false (Nat.not_lt.2 c40)
                   try (have c40b3 := c40b2; simp only [ByteArray.size_append, show (⟨#[32]⟩ : ByteArray).size = 1 from rfl] at c40b3)
                   replace H := Option.bind_eq_some_iff.mp H; obtain ⟨t193, A410, H⟩ := H; (try dsimp only at H); have A41 := Aside0.mk A410; clear A410
                   by_cases c42 : (((((((x5_3 ++ (⟨#[32]⟩ : ByteArray)) ++ t190) ++ (⟨#[32]⟩ : ByteArray)) ++ t191) ++ (⟨#[32]⟩ : ByteArray)) ++ t192) ++ (⟨#[32]⟩ : ByteArray)).size + t193.size ≤ 9223372036854775807
                   ·rw [if_pos c42] at H; have c42b0 := eq_true c42; have c42b1 : decide ((((((((x5_3 ++ (⟨#[32]⟩ : ByteArray)) ++ t190) ++ (⟨#[32]⟩ : ByteArray)) ++ t191) ++ (⟨#[32]⟩ : ByteArray)) ++ t192) ++ (⟨#[32]⟩ : ByteArray)).size + t193.size ≤ 9223372036854775807) = true := decide_eq_true c42
                    try have c42b2 : (9223372036854775807 < (((((((x5_3 ++ (⟨#[32]⟩ : ByteArray)) ++ t190) ++ (⟨#[32]⟩ : ByteArray)) ++ t191) ++ (⟨#[32]⟩ : ByteArray)) ++ t192) ++ (⟨#[32]⟩ : ByteArray)).size + t193.size) = False := eq_false (Nat.not_lt.2 c42)
                    try (have c42b3 := c42b2; simp only [ByteArray.size_append, show (⟨#[32]⟩ : ByteArray).size = 1 from rfl] at c42b3)
                    have H' := Aside0.mk H; clear H; obtain ⟨hcz43, hfz43⟩ := d8 BK184
                    try go_wp2_with (first | ((with_reducible refine gate_callee (f := 20) rfl ?_); refine goesL_ (some 47) rfl rfl Tryd.func20 (by kernel_rfl) rfl #[.int .i64 a0_0] rfl (by (try simp only [List.map_toArray, List.map_cons, List.map_nil]); first | done | rfl | (simp only [List.length_drop, List.length_take]; rfl)) ?_; (with_reducible refine (tallboyref15_Stores.calls a0_0 true _ A28.out).mono ?_); rintro e w' ⟨rfl, ⟨nd, rfl⟩⟩; refine ⟨_, rfl, ?_⟩))
                    (try simp only [World.drewN_drewN]); (try (rw [drewN_self wr]; generalize hq_ : World.drewN wr _ = wr; have n0_ := Aside0.mk (bQ BK184.out hq_); have n1_ := Aside0.mk (bF HB.out hq_); clear BK184 HB hq_; have BK184 := n0_; have HB := n1_; clear n0_ n1_))
                    replace BK184 := Aside0.mk (bD BK184.out); replace HB := Aside0.mk (eD HB.out); refine start_ (n := 20) (S := fun w' => w'.cell? ⟨gb184, 0, none⟩ = some (.int .i64 a0_0) ∧ w'.cell? ⟨gb184, 1, none⟩ = some (.slice A0_1 l0_1.length c0_1) ∧ w'.cell? ⟨gb184, 2, none⟩ = some (.int .u32 a0_2) ∧ w'.cell? ⟨gb184, 3, none⟩ = some (.int .i64 a0_3) ∧ w'.cell? ⟨gb184, 4, none⟩ = some (.string a0_4) ∧ w'.cell? ⟨gb184, 5, none⟩ = some (.int .u64 a0_5) ∧ w'.cell? ⟨gb184, 6, none⟩ = some (.int .u64 a0_6) ∧ w'.cell? ⟨gb184, 7, none⟩ = some (.bool a0_7)) (ds := []) #[false, false, false, false, false, false, false, false, false, false, false, false, false, false, false, false, false, false, false, false] (by kernel_rfl) rfl rfl ⟨kC BK184 0, kC BK184 1, kC BK184 2, kC BK184 3, kC BK184 4, kC BK184 5, kC BK184 6, kC BK184 7⟩ (fun hHeld => ?_); refine with_tabW tallboyref17_Write.tab12 tallboyref17_Write.bits12 (fun HT_ HW_ => ?_)
                    generalize wr.drew = w44 at BK184 HB hHeld ⊢; refine pU HT_ 0 (some 48) ?_ #[true, false, false, false, false, false, false, false, false, false, false, false, false, false, false, false, false, false, false, false] rfl rfl ?_ ?_ ?_ ?_
                    rotate_left
                    ·intro w'
                     go_simp
                     with_reducible rfl
                    rotate_left
                    ·simp only [Act.put, sA, sB, sC, i64_w, i32_w]
                     rfl
                    refine pU HT_ 1 (some 49) ?_ #[true, true, false, false, false, false, false, false, false, false, false, false, false, false, false, false, false, false, false, false] rfl rfl ?_ ?_ ?_ ?_
                    rotate_left
                    ·intro w'
                     go_simp
                     with_reducible rfl
                    rotate_left
                    ·simp only [Act.put, sA, sB, sC, i64_w, i32_w]
                     rfl
                    refine pU HT_ 2 (some 50) ?_ #[true, true, true, false, false, false, false, false, false, false, false, false, false, false, false, false, false, false, false, false] rfl rfl ?_ ?_ ?_ ?_
                    rotate_left
                    ·intro w'
                     go_simp
                     with_reducible rfl
                    rotate_left
                    ·simp only [Act.put, sA, sB, sC, i64_w, i32_w]
                     rfl
                    refine pU HT_ 8 (some 56) ?_ #[true, true, true, false, false, false, false, false, true, false, false, false, false, false, false, false, false, false, false, false] rfl rfl ?_ ?_ ?_ ?_
                    rotate_left
                    ·intro w'
                     go_simp
                     with_reducible rfl
                    rotate_left
                    ·simp only [Act.put, sA, sB, sC, i64_w, i32_w]
                     rfl
                    refine pU HT_ 13 (some 61) ?_ #[true, true, true, false, false, false, false, false, true, false, false, false, false, true, false, false, false, false, false, false] rfl rfl ?_ ?_ ?_ ?_
                    rotate_left
                    ·intro w'
                     go_simp
                     with_reducible rfl
                    rotate_left
                    ·simp only [Act.put, sA, sB, sC, i64_w, i32_w]
                     rfl
                    refine tU HT_ HW_ hHeld 3 (some 51) ?_ #[true, true, true, true, false, false, false, false, true, false, false, false, false, true, false, false, false, false, false, false] rfl rfl ?_ ?_ ?_ ?_
                    rotate_left
                    ·rintro w' ⟨s0, s1, s2, s3, s4, s5, s6, s7⟩
                     go_simp
                     with_reducible rfl
                    rotate_left
                    ·simp only [Act.put, sA, sB, sC, i64_w, i32_w]
                     rfl
                    refine pU HT_ 4 (some 52) ?_ #[true, true, true, true, true, false, false, false, true, false, false, false, false, true, false, false, false, false, false, false] rfl rfl ?_ ?_ ?_ ?_
                    rotate_left
                    ·intro w'
                     go_simp
                     with_reducible rfl
                    rotate_left
                    ·simp only [Act.put, sA, sB, sC, i64_w, i32_w]
                     rfl
                    refine tU HT_ HW_ hHeld 9 (some 57) ?_ #[true, true, true, true, true, false, false, false, true, true, false, false, false, true, false, false, false, false, false, false] rfl rfl ?_ ?_ ?_ ?_
                    rotate_left
                    ·rintro w' ⟨s0, s1, s2, s3, s4, s5, s6, s7⟩
                     go_simp
                     with_reducible rfl
                    rotate_left
                    ·simp only [Act.put, sA, sB, sC, i64_w, i32_w]
                     rfl
                    refine tU HT_ HW_ hHeld 14 (some 62) ?_ #[true, true, true, true, true, false, false, false, true, true, false, false, false, true, true, false, false, false, false, false] rfl rfl ?_ ?_ ?_ ?_
                    rotate_left
                    ·rintro w' ⟨s0, s1, s2, s3, s4, s5, s6, s7⟩
                     go_simp
                     with_reducible rfl
                    rotate_left
                    ·simp only [Act.put, sA, sB, sC, i64_w, i32_w]
                     rfl
                    refine pU HT_ 15 (some 63) ?_ #[true, true, true, true, true, false, false, false, true, true, false, false, false, true, true, true, false, false, false, false] rfl rfl ?_ ?_ ?_ ?_
                    rotate_left
                    ·intro w'
                     go_simp
                     with_reducible rfl
                    rotate_left
                    ·simp only [Act.put, sA, sB, sC, i64_w, i32_w]
                     rfl
                    refine pU HT_ 16 (some 64) ?_ #[true, true, true, true, true, false, false, false, true, true, false, false, false, true, true, true, true, false, false, false] rfl rfl ?_ ?_ ?_ ?_
                    rotate_left
                    ·intro w'
                     go_simp
                     with_reducible rfl
                    rotate_left
                    ·simp only [Act.put, sA, sB, sC, i64_w, i32_w]
                     rfl
                    refine one_ (i := 5) (N := some 53) #[true, true, true, true, true, true, false, false, true, true, false, false, false, true, true, true, true, false, false, false] rfl rfl (one_of HT_.out (by kernel_rfl)) (by decide) (fun K hK => ?_)
                    refine goes_ Tryd.func32 (by kernel_rfl) rfl #[.int .u64 (IntKind.u64.wrap (a0_2))] (by rfl) rfl rfl (by (try simp only [List.map_toArray, List.map_cons, List.map_nil]); first | done | rfl | (simp only [List.length_drop, List.length_take]; rfl)) ?_
                    with_reducible refine (tallboyref02_Text.calls k3 (IntKind.u64.wrap (a0_2)) t190 _ A31.out).mono ?_
                    rintro e w45 ⟨rfl, hb⟩
                    refine ⟨_, rfl, ?_⟩
                    replace BK184 := rB BK184 hb; replace HB := rS HB hb
                    (try clear hb)
                    
                    
                    
                    refine hK.out _ _ ⟨kC BK184 0, kC BK184 1, kC BK184 2, kC BK184 3, kC BK184 4, kC BK184 5, kC BK184 6, kC BK184 7⟩ (fun hHeld => ?_)
                    clear hK K; refine norm_ (a' := ?_) ?_ ?_
                    rotate_left
                    ·show Act.put _ (some 53) _ = _
                     simp only [Act.put, sA, sB, sC, i64_w, i32_w]
                     rfl
                    refine pU HT_ 6 (some 54) ?_ #[true, true, true, true, true, true, true, false, true, true, false, false, false, true, true, true, true, false, false, false] rfl rfl ?_ ?_ ?_ ?_
                    rotate_left
                    ·intro w'
                     go_simp
                     with_reducible rfl
                    rotate_left
                    ·simp only [Act.put, sA, sB, sC, i64_w, i32_w]
                     rfl
                    refine pU HT_ 7 (some 55) ?_ #[true, true, true, true, true, true, true, true, true, true, false, false, false, true, true, true, true, false, false, false] rfl rfl ?_ ?_ ?_ ?_
                    rotate_left
                    ·intro w'
                     go_simp
                     with_reducible rfl
                    rotate_left
                    ·simp only [Act.put, sA, sB, sC, i64_w, i32_w]
                     rfl
                    refine one_ (i := 10) (N := some 58) #[true, true, true, true, true, true, true, true, true, true, true, false, false, true, true, true, true, false, false, false] rfl rfl (one_of HT_.out (by kernel_rfl)) (by decide) (fun K hK => ?_)
                    refine goes_ Tryd.func31 (by kernel_rfl) rfl #[.int .i64 a0_3] (by rfl) rfl rfl (by (try simp only [List.map_toArray, List.map_cons, List.map_nil]); first | done | rfl | (simp only [List.length_drop, List.length_take]; rfl)) ?_
                    with_reducible refine (tallboyref02_TextSigned.calls k3 a0_3 t191 _ A34.out).mono ?_
                    rintro e w46 ⟨rfl, hb⟩
                    refine ⟨_, rfl, ?_⟩
                    replace BK184 := rB BK184 hb; replace HB := rS HB hb
                    (try clear hb)
                    
                    
                    
                    refine hK.out _ _ ⟨kC BK184 0, kC BK184 1, kC BK184 2, kC BK184 3, kC BK184 4, kC BK184 5, kC BK184 6, kC BK184 7⟩ (fun hHeld => ?_)
                    clear hK K; refine norm_ (a' := ?_) ?_ ?_
                    rotate_left
                    ·show Act.put _ (some 58) _ = _
                     simp only [Act.put, sA, sB, sC, i64_w, i32_w]
                     rfl
                    refine pU HT_ 11 (some 59) ?_ #[true, true, true, true, true, true, true, true, true, true, true, true, false, true, true, true, true, false, false, false] rfl rfl ?_ ?_ ?_ ?_
                    rotate_left
                    ·intro w'
                     go_simp
                     with_reducible rfl
                    rotate_left
                    ·simp only [Act.put, sA, sB, sC, i64_w, i32_w]
                     rfl
                    refine pU HT_ 12 (some 60) ?_ #[true, true, true, true, true, true, true, true, true, true, true, true, true, true, true, true, true, false, false, false] rfl rfl ?_ ?_ ?_ ?_
                    rotate_left
                    ·intro w'
                     go_simp
                     with_reducible rfl
                    rotate_left
                    ·simp only [Act.put, sA, sB, sC, i64_w, i32_w]
                     rfl
                    refine one_ (i := 17) (N := some 65) #[true, true, true, true, true, true, true, true, true, true, true, true, true, true, true, true, true, true, false, false] rfl rfl (one_of HT_.out (by kernel_rfl)) (by decide) (fun K hK => ?_)
                    refine goes_ Tryd.func32 (by kernel_rfl) rfl #[.int .u64 (IntKind.u64.wrap ((a0_4.size : Int)))] (by rfl) rfl rfl (by (try simp only [List.map_toArray, List.map_cons, List.map_nil]); first | done | rfl | (simp only [List.length_drop, List.length_take]; rfl)) ?_
                    with_reducible refine (tallboyref02_Text.calls k3 (IntKind.u64.wrap ((a0_4.size : Int))) t192 _ A37.out).mono ?_
                    rintro e w47 ⟨rfl, hb⟩
                    refine ⟨_, rfl, ?_⟩
                    replace BK184 := rB BK184 hb; replace HB := rS HB hb
                    (try clear hb)
                    
                    
                    
                    refine hK.out _ _ ⟨kC BK184 0, kC BK184 1, kC BK184 2, kC BK184 3, kC BK184 4, kC BK184 5, kC BK184 6, kC BK184 7⟩ (fun hHeld => ?_)
                    clear hK K; refine norm_ (a' := ?_) ?_ ?_
                    rotate_left
                    ·show Act.put _ (some 65) _ = _
                     simp only [Act.put, sA, sB, sC, i64_w, i32_w]
                     rfl
                    refine pU HT_ 18 (some 66) ?_ #[true, true, true, true, true, true, true, true, true, true, true, true, true, true, true, true, true, true, true, false] rfl rfl ?_ ?_ ?_ ?_
                    rotate_left
                    ·intro w'
                     go_simp
                     with_reducible rfl
                    rotate_left
                    ·simp only [Act.put, sA, sB, sC, i64_w, i32_w]
                     rfl
                    refine pU HT_ 19 (some 5) ?_ #[true, true, true, true, true, true, true, true, true, true, true, true, true, true, true, true, true, true, true, true] rfl rfl ?_ ?_ ?_ ?_
                    rotate_left
                    ·intro w'
                     go_simp
                     with_reducible rfl
                    rotate_left
                    ·simp only [Act.put, sA, sB, sC, i64_w, i32_w]
                     rfl
                    refine done_ (done_of HT_.out (by kernel_rfl)) ?_
                    obtain ⟨hcz48, hfz48⟩ := d8 BK184
                    try go_wp2_with (first | ((with_reducible refine gate_callee (f := 32) rfl ?_); refine goesL_ (some 74) rfl rfl Tryd.func32 (by kernel_rfl) rfl #[.int .u64 a0_5] rfl (by (try simp only [List.map_toArray, List.map_cons, List.map_nil]); first | done | rfl | (simp only [List.length_drop, List.length_take]; rfl)) ?_; (with_reducible refine (tallboyref02_Text.calls k3 a0_5 t193 _ A41.out).mono ?_); rintro e w49 ⟨rfl, hb⟩; refine ⟨_, rfl, ?_⟩; replace BK184 := rB BK184 hb; replace HB := rS HB hb; (try clear hb); ))
                    go_meet
                    case rel => exact ⟨_, ((((((((x5_3 ++ (⟨#[32]⟩ : ByteArray)) ++ t190) ++ (⟨#[32]⟩ : ByteArray)) ++ t191) ++ (⟨#[32]⟩ : ByteArray)) ++ t192) ++ (⟨#[32]⟩ : ByteArray)) ++ t193), (by first | rfl | (simp; done) | (simp [*]; done)), H', ⟨by have := HJ4.out; have := HJ13.out; have := HK3.out; first | omega | exact Nat.le_refl _⟩, ⟨bK BK184.out⟩, ⟨bH HB.out⟩⟩
                   ·rw [if_neg c42] at H; exact absurd H (by simp)
                  ·rw [if_neg c40] at H; exact absurd H (by simp)
                 ·rw [if_neg c39] at H; have c39b0 : (a0_0 == 10) = false := beq_eq_false_iff_ne.mpr c39; have c39b1 : (a0_0 != 10) = true := bne_iff_ne.mpr c39
                  (first | rw [c39b0] | (simp only [i64_w, i32_w]; rw [c39b0]) | skip)
                  have H' := Aside0.mk H; clear H; obtain ⟨hcz50, hfz50⟩ := d8 BK184
                  try go_wp2_with (first | ((with_reducible refine gate_callee (f := 20) rfl ?_); refine goesL_ (some 47) rfl rfl Tryd.func20 (by kernel_rfl) rfl #[.int .i64 a0_0] rfl (by (try simp only [List.map_toArray, List.map_cons, List.map_nil]); first | done | rfl | (simp only [List.length_drop, List.length_take]; rfl)) ?_; (with_reducible refine (tallboyref15_Stores.calls a0_0 true _ A28.out).mono ?_); rintro e w' ⟨rfl, ⟨nd, rfl⟩⟩; refine ⟨_, rfl, ?_⟩))
                  (try simp only [World.drewN_drewN]); (try (rw [drewN_self wr]; generalize hq_ : World.drewN wr _ = wr; have n0_ := Aside0.mk (bQ BK184.out hq_); have n1_ := Aside0.mk (bF HB.out hq_); clear BK184 HB hq_; have BK184 := n0_; have HB := n1_; clear n0_ n1_))
                  replace BK184 := Aside0.mk (bD BK184.out); replace HB := Aside0.mk (eD HB.out); refine start_ (n := 20) (S := fun w' => w'.cell? ⟨gb184, 0, none⟩ = some (.int .i64 a0_0) ∧ w'.cell? ⟨gb184, 1, none⟩ = some (.slice A0_1 l0_1.length c0_1) ∧ w'.cell? ⟨gb184, 2, none⟩ = some (.int .u32 a0_2) ∧ w'.cell? ⟨gb184, 3, none⟩ = some (.int .i64 a0_3) ∧ w'.cell? ⟨gb184, 4, none⟩ = some (.string a0_4) ∧ w'.cell? ⟨gb184, 5, none⟩ = some (.int .u64 a0_5) ∧ w'.cell? ⟨gb184, 6, none⟩ = some (.int .u64 a0_6) ∧ w'.cell? ⟨gb184, 7, none⟩ = some (.bool a0_7)) (ds := []) #[false, false, false, false, false, false, false, false, false, false, false, false, false, false, false, false, false, false, false, false] (by kernel_rfl) rfl rfl ⟨kC BK184 0, kC BK184 1, kC BK184 2, kC BK184 3, kC BK184 4, kC BK184 5, kC BK184 6, kC BK184 7⟩ (fun hHeld => ?_); refine with_tabW tallboyref17_Write.tab12 tallboyref17_Write.bits12 (fun HT_ HW_ => ?_)
                  generalize wr.drew = w51 at BK184 HB hHeld ⊢; refine pU HT_ 0 (some 48) ?_ #[true, false, false, false, false, false, false, false, false, false, false, false, false, false, false, false, false, false, false, false] rfl rfl ?_ ?_ ?_ ?_
                  rotate_left
                  ·intro w'
                   go_simp
                   with_reducible rfl
                  rotate_left
                  ·simp only [Act.put, sA, sB, sC, i64_w, i32_w]
                   rfl
                  refine pU HT_ 1 (some 49) ?_ #[true, true, false, false, false, false, false, false, false, false, false, false, false, false, false, false, false, false, false, false] rfl rfl ?_ ?_ ?_ ?_
                  rotate_left
                  ·intro w'
                   go_simp
                   with_reducible rfl
                  rotate_left
                  ·simp only [Act.put, sA, sB, sC, i64_w, i32_w]
                   rfl
                  refine pU HT_ 2 (some 50) ?_ #[true, true, true, false, false, false, false, false, false, false, false, false, false, false, false, false, false, false, false, false] rfl rfl ?_ ?_ ?_ ?_
                  rotate_left
                  ·intro w'
                   go_simp
                   with_reducible rfl
                  rotate_left
                  ·simp only [Act.put, sA, sB, sC, i64_w, i32_w]
                   rfl
                  refine pU HT_ 8 (some 56) ?_ #[true, true, true, false, false, false, false, false, true, false, false, false, false, false, false, false, false, false, false, false] rfl rfl ?_ ?_ ?_ ?_
                  rotate_left
                  ·intro w'
                   go_simp
                   with_reducible rfl
                  rotate_left
                  ·simp only [Act.put, sA, sB, sC, i64_w, i32_w]
                   rfl
                  refine pU HT_ 13 (some 61) ?_ #[true, true, true, false, false, false, false, false, true, false, false, false, false, true, false, false, false, false, false, false] rfl rfl ?_ ?_ ?_ ?_
                  rotate_left
                  ·intro w'
                   go_simp
                   with_reducible rfl
                  rotate_left
                  ·simp only [Act.put, sA, sB, sC, i64_w, i32_w]
                   rfl
                  refine tU HT_ HW_ hHeld 3 (some 51) ?_ #[true, true, true, true, false, false, false, false, true, false, false, false, false, true, false, false, false, false, false, false] rfl rfl ?_ ?_ ?_ ?_
                  rotate_left
                  ·rintro w' ⟨s0, s1, s2, s3, s4, s5, s6, s7⟩
                   go_simp
                   with_reducible rfl
                  rotate_left
                  ·simp only [Act.put, sA, sB, sC, i64_w, i32_w]
                   rfl
                  refine pU HT_ 4 (some 52) ?_ #[true, true, true, true, true, false, false, false, true, false, false, false, false, true, false, false, false, false, false, false] rfl rfl ?_ ?_ ?_ ?_
                  rotate_left
                  ·intro w'
                   go_simp
                   with_reducible rfl
                  rotate_left
                  ·simp only [Act.put, sA, sB, sC, i64_w, i32_w]
                   rfl
                  refine tU HT_ HW_ hHeld 9 (some 57) ?_ #[true, true, true, true, true, false, false, false, true, true, false, false, false, true, false, false, false, false, false, false] rfl rfl ?_ ?_ ?_ ?_
                  rotate_left
                  ·rintro w' ⟨s0, s1, s2, s3, s4, s5, s6, s7⟩
                   go_simp
                   with_reducible rfl
                  rotate_left
                  ·simp only [Act.put, sA, sB, sC, i64_w, i32_w]
                   rfl
                  refine tU HT_ HW_ hHeld 14 (some 62) ?_ #[true, true, true, true, true, false, false, false, true, true, false, false, false, true, true, false, false, false, false, false] rfl rfl ?_ ?_ ?_ ?_
                  rotate_left
                  ·rintro w' ⟨s0, s1, s2, s3, s4, s5, s6, s7⟩
                   go_simp
                   with_reducible rfl
                  rotate_left
                  ·simp only [Act.put, sA, sB, sC, i64_w, i32_w]
                   rfl
                  refine pU HT_ 15 (some 63) ?_ #[true, true, true, true, true, false, false, false, true, true, false, false, false, true, true, true, false, false, false, false] rfl rfl ?_ ?_ ?_ ?_
                  rotate_left
                  ·intro w'
                   go_simp
                   with_reducible rfl
                  rotate_left
                  ·simp only [Act.put, sA, sB, sC, i64_w, i32_w]
                   rfl
                  refine pU HT_ 16 (some 64) ?_ #[true, true, true, true, true, false, false, false, true, true, false, false, false, true, true, true, true, false, false, false] rfl rfl ?_ ?_ ?_ ?_
                  rotate_left
                  ·intro w'
                   go_simp
                   with_reducible rfl
                  rotate_left
                  ·simp only [Act.put, sA, sB, sC, i64_w, i32_w]
                   rfl
                  refine one_ (i := 5) (N := some 53) #[true, true, true, true, true, true, false, false, true, true, false, false, false, true, true, true, true, false, false, false] rfl rfl (one_of HT_.out (by kernel_rfl)) (by decide) (fun K hK => ?_)
                  refine goes_ Tryd.func32 (by kernel_rfl) rfl #[.int .u64 (IntKind.u64.wrap (a0_2))] (by rfl) rfl rfl (by (try simp only [List.map_toArray, List.map_cons, List.map_nil]); first | done | rfl | (simp only [List.length_drop, List.length_take]; rfl)) ?_
                  with_reducible refine (tallboyref02_Text.calls k3 (IntKind.u64.wrap (a0_2)) t190 _ A31.out).mono ?_
                  rintro e w52 ⟨rfl, hb⟩
                  refine ⟨_, rfl, ?_⟩
                  replace BK184 := rB BK184 hb; replace HB := rS HB hb
                  (try clear hb)
                  
                  
                  
                  refine hK.out _ _ ⟨kC BK184 0, kC BK184 1, kC BK184 2, kC BK184 3, kC BK184 4, kC BK184 5, kC BK184 6, kC BK184 7⟩ (fun hHeld => ?_)
                  clear hK K; refine norm_ (a' := ?_) ?_ ?_
                  rotate_left
                  ·show Act.put _ (some 53) _ = _
                   simp only [Act.put, sA, sB, sC, i64_w, i32_w]
                   rfl
                  refine pU HT_ 6 (some 54) ?_ #[true, true, true, true, true, true, true, false, true, true, false, false, false, true, true, true, true, false, false, false] rfl rfl ?_ ?_ ?_ ?_
                  rotate_left
                  ·intro w'
                   go_simp
                   with_reducible rfl
                  rotate_left
                  ·simp only [Act.put, sA, sB, sC, i64_w, i32_w]
                   rfl
                  refine pU HT_ 7 (some 55) ?_ #[true, true, true, true, true, true, true, true, true, true, false, false, false, true, true, true, true, false, false, false] rfl rfl ?_ ?_ ?_ ?_
                  rotate_left
                  ·intro w'
                   go_simp
                   with_reducible rfl
                  rotate_left
                  ·simp only [Act.put, sA, sB, sC, i64_w, i32_w]
                   rfl
                  refine one_ (i := 10) (N := some 58) #[true, true, true, true, true, true, true, true, true, true, true, false, false, true, true, true, true, false, false, false] rfl rfl (one_of HT_.out (by kernel_rfl)) (by decide) (fun K hK => ?_)
                  refine goes_ Tryd.func31 (by kernel_rfl) rfl #[.int .i64 a0_3] (by rfl) rfl rfl (by (try simp only [List.map_toArray, List.map_cons, List.map_nil]); first | done | rfl | (simp only [List.length_drop, List.length_take]; rfl)) ?_
                  with_reducible refine (tallboyref02_TextSigned.calls k3 a0_3 t191 _ A34.out).mono ?_
                  rintro e w53 ⟨rfl, hb⟩
                  refine ⟨_, rfl, ?_⟩
                  replace BK184 := rB BK184 hb; replace HB := rS HB hb
                  (try clear hb)
                  
                  
                  
                  refine hK.out _ _ ⟨kC BK184 0, kC BK184 1, kC BK184 2, kC BK184 3, kC BK184 4, kC BK184 5, kC BK184 6, kC BK184 7⟩ (fun hHeld => ?_)
                  clear hK K; refine norm_ (a' := ?_) ?_ ?_
                  rotate_left
                  ·show Act.put _ (some 58) _ = _
                   simp only [Act.put, sA, sB, sC, i64_w, i32_w]
                   rfl
                  refine pU HT_ 11 (some 59) ?_ #[true, true, true, true, true, true, true, true, true, true, true, true, false, true, true, true, true, false, false, false] rfl rfl ?_ ?_ ?_ ?_
                  rotate_left
                  ·intro w'
                   go_simp
                   with_reducible rfl
                  rotate_left
                  ·simp only [Act.put, sA, sB, sC, i64_w, i32_w]
                   rfl
                  refine pU HT_ 12 (some 60) ?_ #[true, true, true, true, true, true, true, true, true, true, true, true, true, true, true, true, true, false, false, false] rfl rfl ?_ ?_ ?_ ?_
                  rotate_left
                  ·intro w'
                   go_simp
                   with_reducible rfl
                  rotate_left
                  ·simp only [Act.put, sA, sB, sC, i64_w, i32_w]
                   rfl
                  refine one_ (i := 17) (N := some 65) #[true, true, true, true, true, true, true, true, true, true, true, true, true, true, true, true, true, true, false, false] rfl rfl (one_of HT_.out (by kernel_rfl)) (by decide) (fun K hK => ?_)
                  refine goes_ Tryd.func32 (by kernel_rfl) rfl #[.int .u64 (IntKind.u64.wrap ((a0_4.size : Int)))] (by rfl) rfl rfl (by (try simp only [List.map_toArray, List.map_cons, List.map_nil]); first | done | rfl | (simp only [List.length_drop, List.length_take]; rfl)) ?_
                  with_reducible refine (tallboyref02_Text.calls k3 (IntKind.u64.wrap ((a0_4.size : Int))) t192 _ A37.out).mono ?_
                  rintro e w54 ⟨rfl, hb⟩
                  refine ⟨_, rfl, ?_⟩
                  replace BK184 := rB BK184 hb; replace HB := rS HB hb
                  (try clear hb)
                  
                  
                  
                  refine hK.out _ _ ⟨kC BK184 0, kC BK184 1, kC BK184 2, kC BK184 3, kC BK184 4, kC BK184 5, kC BK184 6, kC BK184 7⟩ (fun hHeld => ?_)
                  clear hK K; refine norm_ (a' := ?_) ?_ ?_
                  rotate_left
                  ·show Act.put _ (some 65) _ = _
                   simp only [Act.put, sA, sB, sC, i64_w, i32_w]
                   rfl
                  refine pU HT_ 18 (some 66) ?_ #[true, true, true, true, true, true, true, true, true, true, true, true, true, true, true, true, true, true, true, false] rfl rfl ?_ ?_ ?_ ?_
                  rotate_left
                  ·intro w'
                   go_simp
                   with_reducible rfl
                  rotate_left
                  ·simp only [Act.put, sA, sB, sC, i64_w, i32_w]
                   rfl
                  refine pU HT_ 19 (some 5) ?_ #[true, true, true, true, true, true, true, true, true, true, true, true, true, true, true, true, true, true, true, true] rfl rfl ?_ ?_ ?_ ?_
                  rotate_left
                  ·intro w'
                   go_simp
                   with_reducible rfl
                  rotate_left
                  ·simp only [Act.put, sA, sB, sC, i64_w, i32_w]
                   rfl
                  refine done_ (done_of HT_.out (by kernel_rfl)) ?_
                  obtain ⟨hcz55, hfz55⟩ := d8 BK184
                  try go_wp2
                  go_meet
                  case rel => exact ⟨_, ((((((x5_3 ++ (⟨#[32]⟩ : ByteArray)) ++ t190) ++ (⟨#[32]⟩ : ByteArray)) ++ t191) ++ (⟨#[32]⟩ : ByteArray)) ++ t192), (by first | rfl | (simp; done) | (simp [*]; done)), H', ⟨by have := HJ4.out; have := HJ13.out; have := HK3.out; first | omega | exact Nat.le_refl _⟩, ⟨bK BK184.out⟩, ⟨bH HB.out⟩⟩
                ·rw [if_neg c38] at H; exact absurd H (by simp)
               ·rw [if_neg c36] at H; exact absurd H (by simp)
              ·rw [if_neg c35] at H; exact absurd H (by simp)
             ·rw [if_neg c33] at H; exact absurd H (by simp)
            ·rw [if_neg c32] at H; exact absurd H (by simp)
           ·rw [if_neg c30] at H; exact absurd H (by simp)
          ·replace c29 := Bool.eq_false_iff.mpr c29; subst c29; rw [if_neg (show ¬ (false = true) by decide)] at H
           by_cases c56 : a0_0 = 14
           ·rw [if_pos c56] at H; have c56b0 : (a0_0 == 14) = true := beq_iff_eq.mpr c56; have c56b1 : (a0_0 != 14) = false := bne_eq_false_iff_eq.mpr c56; clear c56
            by_cases c57 : x5_3.size + 1 ≤ 9223372036854775807
            ·rw [if_pos c57] at H; have c57b0 := eq_true c57; have c57b1 : decide (x5_3.size + 1 ≤ 9223372036854775807) = true := decide_eq_true c57
             try have c57b2 : (9223372036854775807 < x5_3.size + 1) = False := eq_false (Nat.not_lt.2 c57)
             replace H := Option.bind_eq_some_iff.mp H; obtain ⟨t194, A580, H⟩ := H; (try dsimp only at H); have A58 := Aside0.mk A580; clear A580
             by_cases c59 : (x5_3 ++ (⟨#[32]⟩ : ByteArray)).size + t194.size ≤ 9223372036854775807
             ·rw [if_pos c59] at H; have c59b0 := eq_true c59; have c59b1 : decide ((x5_3 ++ (⟨#[32]⟩ : ByteArray)).size + t194.size ≤ 9223372036854775807) = true := decide_eq_true c59
              try have c59b2 : (9223372036854775807 < (x5_3 ++ (⟨#[32]⟩ : ByteArray)).size + t194.size) = False := eq_false (Nat.not_lt.2 c59)
              try (have c59b3 := c59b2; simp only [ByteArray.size_append, show (⟨#[32]⟩ : ByteArray).size = 1 from rfl] at c59b3)
              have H' := Aside0.mk H; clear H; obtain ⟨hcz60, hfz60⟩ := d8 BK184
              go_wp2_with (first | ((with_reducible refine gate_callee (f := 20) rfl ?_); refine goesL_ (some 47) rfl rfl Tryd.func20 (by kernel_rfl) rfl #[.int .i64 a0_0] rfl (by (try simp only [List.map_toArray, List.map_cons, List.map_nil]); first | done | rfl | (simp only [List.length_drop, List.length_take]; rfl)) ?_; (with_reducible refine (tallboyref15_Stores.calls a0_0 false _ A28.out).mono ?_); rintro e w' ⟨rfl, ⟨nd, rfl⟩⟩; refine ⟨_, rfl, ?_⟩) | ((with_reducible refine gate_callee (f := 31) rfl ?_); refine goesL_ (some 84) rfl rfl Tryd.func31 (by kernel_rfl) rfl #[.int .i64 a0_3] rfl (by (try simp only [List.map_toArray, List.map_cons, List.map_nil]); first | done | rfl | (simp only [List.length_drop, List.length_take]; rfl)) ?_; (with_reducible refine (tallboyref02_TextSigned.calls k3 a0_3 t194 _ A58.out).mono ?_); rintro e w61 ⟨rfl, hb⟩; refine ⟨_, rfl, ?_⟩; replace BK184 := rB BK184 hb; replace HB := rS HB hb; (try clear hb); ))
              go_meet
              case rel => exact ⟨_, ((x5_3 ++ (⟨#[32]⟩ : ByteArray)) ++ t194), (by first | rfl | (simp; done) | (simp [*]; done)), H', ⟨by have := HJ4.out; have := HJ13.out; have := HK3.out; first | omega | exact Nat.le_refl _⟩, ⟨bK BK184.out⟩, ⟨bH HB.out⟩⟩
             ·rw [if_neg c59] at H; exact absurd H (by simp)
            ·rw [if_neg c57] at H; exact absurd H (by simp)
           ·rw [if_neg c56] at H; have c56b0 : (a0_0 == 14) = false := beq_eq_false_iff_ne.mpr c56; have c56b1 : (a0_0 != 14) = true := bne_iff_ne.mpr c56
            by_cases c62 : a0_0 = 12
            ·rw [if_pos c62] at H; have c62b0 : (a0_0 == 12) = true := beq_iff_eq.mpr c62; have c62b1 : (a0_0 != 12) = false := bne_eq_false_iff_eq.mpr c62; clear c62
             by_cases c63 : x5_3.size + 1 ≤ 9223372036854775807
             ·rw [if_pos c63] at H; have c63b0 := eq_true c63; have c63b1 : decide (x5_3.size + 1 ≤ 9223372036854775807) = true := decide_eq_true c63
              try have c63b2 : (9223372036854775807 < x5_3.size + 1) = False := eq_false (Nat.not_lt.2 c63)
              replace H := Option.bind_eq_some_iff.mp H; obtain ⟨t195, A640, H⟩ := H; (try dsimp only at H); have A64 := Aside0.mk A640; clear A640
              by_cases c65 : (x5_3 ++ (⟨#[32]⟩ : ByteArray)).size + t195.size ≤ 9223372036854775807
              ·rw [if_pos c65] at H; have c65b0 := eq_true c65; have c65b1 : decide ((x5_3 ++ (⟨#[32]⟩ : ByteArray)).size + t195.size ≤ 9223372036854775807) = true := decide_eq_true c65
               try have c65b2 : (9223372036854775807 < (x5_3 ++ (⟨#[32]⟩ : ByteArray)).size + t195.size) = False := eq_false (Nat.not_lt.2 c65)
               try (have c65b3 := c65b2; simp only [ByteArray.size_append, show (⟨#[32]⟩ : ByteArray).size = 1 from rfl] at c65b3)
               have H' := Aside0.mk H; clear H; obtain ⟨hcz66, hfz66⟩ := d8 BK184
               go_wp2_with (first | ((with_reducible refine gate_callee (f := 20) rfl ?_); refine goesL_ (some 47) rfl rfl Tryd.func20 (by kernel_rfl) rfl #[.int .i64 a0_0] rfl (by (try simp only [List.map_toArray, List.map_cons, List.map_nil]); first | done | rfl | (simp only [List.length_drop, List.length_take]; rfl)) ?_; (with_reducible refine (tallboyref15_Stores.calls a0_0 false _ A28.out).mono ?_); rintro e w' ⟨rfl, ⟨nd, rfl⟩⟩; refine ⟨_, rfl, ?_⟩) | ((with_reducible refine gate_callee (f := 32) rfl ?_); refine goesL_ (some 99) rfl rfl Tryd.func32 (by kernel_rfl) rfl #[.int .u64 a0_6] rfl (by (try simp only [List.map_toArray, List.map_cons, List.map_nil]); first | done | rfl | (simp only [List.length_drop, List.length_take]; rfl)) ?_; (with_reducible refine (tallboyref02_Text.calls k3 a0_6 t195 _ A64.out).mono ?_); rintro e w67 ⟨rfl, hb⟩; refine ⟨_, rfl, ?_⟩; replace BK184 := rB BK184 hb; replace HB := rS HB hb; (try clear hb); ))
               go_meet
               case rel => exact ⟨_, ((x5_3 ++ (⟨#[32]⟩ : ByteArray)) ++ t195), (by first | rfl | (simp; done) | (simp [*]; done)), H', ⟨by have := HJ4.out; have := HJ13.out; have := HK3.out; first | omega | exact Nat.le_refl _⟩, ⟨bK BK184.out⟩, ⟨bH HB.out⟩⟩
              ·rw [if_neg c65] at H; exact absurd H (by simp)
             ·rw [if_neg c63] at H; exact absurd H (by simp)
            ·rw [if_neg c62] at H; have c62b0 : (a0_0 == 12) = false := beq_eq_false_iff_ne.mpr c62; have c62b1 : (a0_0 != 12) = true := bne_iff_ne.mpr c62
             by_cases c68 : a0_0 = 13
             ·rw [if_pos c68] at H; have c68b0 : (a0_0 == 13) = true := beq_iff_eq.mpr c68; have c68b1 : (a0_0 != 13) = false := bne_eq_false_iff_eq.mpr c68; clear c68
              by_cases c69 : x5_3.size + 1 ≤ 9223372036854775807
              ·rw [if_pos c69] at H; have c69b0 := eq_true c69; have c69b1 : decide (x5_3.size + 1 ≤ 9223372036854775807) = true := decide_eq_true c69
               try have c69b2 : (9223372036854775807 < x5_3.size + 1) = False := eq_false (Nat.not_lt.2 c69)
               replace H := Option.bind_eq_some_iff.mp H; obtain ⟨t196, A700, H⟩ := H; (try dsimp only at H); have A70 := Aside0.mk A700; clear A700
               by_cases c71 : (x5_3 ++ (⟨#[32]⟩ : ByteArray)).size + t196.size ≤ 9223372036854775807
               ·rw [if_pos c71] at H; have c71b0 := eq_true c71; have c71b1 : decide ((x5_3 ++ (⟨#[32]⟩ : ByteArray)).size + t196.size ≤ 9223372036854775807) = true := decide_eq_true c71
                try have c71b2 : (9223372036854775807 < (x5_3 ++ (⟨#[32]⟩ : ByteArray)).size + t196.size) = False := eq_false (Nat.not_lt.2 c71)
                try (have c71b3 := c71b2; simp only [ByteArray.size_append, show (⟨#[32]⟩ : ByteArray).size = 1 from rfl] at c71b3)
                have H' := Aside0.mk H; clear H; obtain ⟨hcz72, hfz72⟩ := d8 BK184
                go_wp2_with (first | ((with_reducible refine gate_callee (f := 20) rfl ?_); refine goesL_ (some 47) rfl rfl Tryd.func20 (by kernel_rfl) rfl #[.int .i64 a0_0] rfl (by (try simp only [List.map_toArray, List.map_cons, List.map_nil]); first | done | rfl | (simp only [List.length_drop, List.length_take]; rfl)) ?_; (with_reducible refine (tallboyref15_Stores.calls a0_0 false _ A28.out).mono ?_); rintro e w' ⟨rfl, ⟨nd, rfl⟩⟩; refine ⟨_, rfl, ?_⟩) | ((with_reducible refine gate_callee (f := 32) rfl ?_); refine goesL_ (some 99) rfl rfl Tryd.func32 (by kernel_rfl) rfl #[.int .u64 a0_6] rfl (by (try simp only [List.map_toArray, List.map_cons, List.map_nil]); first | done | rfl | (simp only [List.length_drop, List.length_take]; rfl)) ?_; (with_reducible refine (tallboyref02_Text.calls k3 a0_6 t196 _ A70.out).mono ?_); rintro e w73 ⟨rfl, hb⟩; refine ⟨_, rfl, ?_⟩; replace BK184 := rB BK184 hb; replace HB := rS HB hb; (try clear hb); ))
                go_meet
                case rel => exact ⟨_, ((x5_3 ++ (⟨#[32]⟩ : ByteArray)) ++ t196), (by first | rfl | (simp; done) | (simp [*]; done)), H', ⟨by have := HJ4.out; have := HJ13.out; have := HK3.out; first | omega | exact Nat.le_refl _⟩, ⟨bK BK184.out⟩, ⟨bH HB.out⟩⟩
               ·rw [if_neg c71] at H; exact absurd H (by simp)
              ·rw [if_neg c69] at H; exact absurd H (by simp)
             ·rw [if_neg c68] at H; have c68b0 : (a0_0 == 13) = false := beq_eq_false_iff_ne.mpr c68; have c68b1 : (a0_0 != 13) = true := bne_iff_ne.mpr c68; have H' := Aside0.mk H; clear H; obtain ⟨hcz74, hfz74⟩ := d8 BK184
              go_wp2_with (first | ((with_reducible refine gate_callee (f := 20) rfl ?_); refine goesL_ (some 47) rfl rfl Tryd.func20 (by kernel_rfl) rfl #[.int .i64 a0_0] rfl (by (try simp only [List.map_toArray, List.map_cons, List.map_nil]); first | done | rfl | (simp only [List.length_drop, List.length_take]; rfl)) ?_; (with_reducible refine (tallboyref15_Stores.calls a0_0 false _ A28.out).mono ?_); rintro e w' ⟨rfl, ⟨nd, rfl⟩⟩; refine ⟨_, rfl, ?_⟩))
              go_meet
              case rel => exact ⟨_, (x5_3), (by first | rfl | (simp; done) | (simp [*]; done)), H', ⟨by have := HJ4.out; have := HJ13.out; have := HK3.out; first | omega | exact Nat.le_refl _⟩, ⟨bK BK184.out⟩, ⟨bH HB.out⟩⟩
         case rest =>
          clear HC26; (try clear c3); (try clear c29); (try clear c30); (try clear c32); (try clear c33); (try clear c35); (try clear c36); (try clear c38); (try clear c39); (try clear c39b0); (try clear c39b1); (try clear c40); (try clear c42); (try clear c56); (try clear c56b0); (try clear c56b1); (try clear c57); (try clear c57b0); (try clear c57b1); (try clear c57b2); (try clear c59); (try clear c59b0); (try clear c59b1); (try clear c59b2); (try clear c62); (try clear c62b0); (try clear c62b1); (try clear c63); (try clear c63b0); (try clear c63b1); (try clear c63b2); (try clear c65); (try clear c65b0); (try clear c65b1); (try clear c65b2); (try clear c68); (try clear c68b0); (try clear c68b1); (try clear c69); (try clear c69b0); (try clear c69b1); (try clear c69b2); (try clear c71); (try clear c71b0); (try clear c71b1); (try clear c71b2); (try clear hcz48); (try clear hcz50); (try clear hcz55); (try clear hcz60); (try clear hcz66); (try clear hcz72); (try clear hcz74); (try clear hfz48); (try clear hfz50); (try clear hfz55); (try clear hfz60); (try clear hfz66)
          (try clear hfz72); (try clear hfz74); obtain ⟨kq, x5_25, rfl, HA, HJ25, BK184, HB⟩ := hcut; cases kq with
          | zero => exact absurd HA.out (by simp [tallboyref17_Write.j3])
          | succ kj25 =>
           have H := HA.out; clear HA; simp only [tallboyref17_Write.j3] at H; have HC75 := Aside0.mk H; clear H; obtain ⟨hcz76, hfz76⟩ := d8 BK184
           go_upto_if 102 with (fail)
           go_cut [5] (fun v5 wc => ∃ (kq : Nat) (x5_74 : ByteArray), v5 = .string x5_74 ∧ Aside0 (tallboyref17_Write.j4 kq x5_74 = some (r1, r2)) ∧ Aside0 (kq ≤ kj25) ∧ Aside0 (wc.heap[gb184]? = some (.cells #[.int .i64 a0_0, (.slice A0_1 l0_1.length c0_1), .int .u32 a0_2, .int .i64 a0_3, .string a0_4, .int .u64 a0_5, .int .u64 a0_6, .bool a0_7] 26 (0, 0))) ∧ Aside0 (Below w.heap.size w wc))
           case first =>
            have H := HC75.out; clear HC75
            by_cases c77 : a0_7 = true
            ·subst c77; rw [if_pos rfl] at H
             by_cases c78 : x5_25.size + 8 ≤ 9223372036854775807
             ·rw [if_pos c78] at H; have c78b0 := eq_true c78; have c78b1 : decide (x5_25.size + 8 ≤ 9223372036854775807) = true := decide_eq_true c78
              try have c78b2 : (9223372036854775807 < x5_25.size + 8) = False := eq_false (Nat.not_lt.2 c78)
              have H' := Aside0.mk H; clear H; go_wp2
              go_meet
              case rel => exact ⟨_, (x5_25 ++ (⟨#[32, 110, 111, 114, 101, 112, 108, 121]⟩ : ByteArray)), (by first | rfl | (simp; done) | (simp [*]; done)), H', ⟨by have := HJ4.out; have := HJ13.out; have := HK3.out; have := HJ25.out; first | omega | exact Nat.le_refl _⟩, ⟨bK BK184.out⟩, ⟨bH HB.out⟩⟩
             ·rw [if_neg c78] at H; exact absurd H (by simp)
            ·replace c77 := Bool.eq_false_iff.mpr c77; subst c77; rw [if_neg (show ¬ (false = true) by decide)] at H; have H' := Aside0.mk H; clear H; go_wp2
             go_meet
             case rel => exact ⟨_, (x5_25), (by first | rfl | (simp; done) | (simp [*]; done)), H', ⟨by have := HJ4.out; have := HJ13.out; have := HK3.out; have := HJ25.out; first | omega | exact Nat.le_refl _⟩, ⟨bK BK184.out⟩, ⟨bH HB.out⟩⟩
           case rest =>
            clear HC75; (try clear c3); (try clear c29); (try clear c30); (try clear c32); (try clear c33); (try clear c35); (try clear c36); (try clear c38); (try clear c39); (try clear c39b0); (try clear c39b1); (try clear c40); (try clear c42); (try clear c56); (try clear c56b0); (try clear c56b1); (try clear c57); (try clear c57b0); (try clear c57b1); (try clear c57b2); (try clear c59); (try clear c59b0); (try clear c59b1); (try clear c59b2); (try clear c62); (try clear c62b0); (try clear c62b1); (try clear c63); (try clear c63b0); (try clear c63b1); (try clear c63b2); (try clear c65); (try clear c65b0); (try clear c65b1); (try clear c65b2); (try clear c68); (try clear c68b0); (try clear c68b1); (try clear c69); (try clear c69b0); (try clear c69b1); (try clear c69b2); (try clear c71); (try clear c71b0); (try clear c71b1); (try clear c71b2); (try clear c77); (try clear c78); (try clear c78b0); (try clear c78b1); (try clear c78b2); (try clear hcz48); (try clear hcz50); (try clear hcz55); (try clear hcz60); (try clear hcz66); (try clear hcz72); (try clear hcz74); (try clear hcz76); (try clear hfz48); (try clear hfz50); (try clear hfz55); (try clear hfz60)
            (try clear hfz60); (try clear hfz66); (try clear hfz72); (try clear hfz74); (try clear hfz76); obtain ⟨kq, x5_74, rfl, HA, HJ74, BK184, HB⟩ := hcut; cases kq with
            | zero => exact absurd HA.out (by simp [tallboyref17_Write.j4])
            | succ kj74 =>
             have H := HA.out; clear HA; simp only [tallboyref17_Write.j4] at H
             by_cases c79 : (x5_74.size : Int) > 160
             ·rw [if_pos c79] at H; have c79b0 : decide (160 < (x5_74.size : Int)) = true := decide_eq_true c79; have c79b1 : decide (160 < x5_74.size) = true := decide_eq_true (by omega); clear c79; simp only [Option.some.injEq, Prod.mk.injEq] at H; obtain ⟨rfl, rfl⟩ := H; go_wp2
              go_ret2
              exact ⟨xR, bH HB.out⟩
             ·rw [if_neg c79] at H; have c79b0 : decide (160 < (x5_74.size : Int)) = false := decide_eq_false c79; have c79b1 : decide (160 < x5_74.size) = false := decide_eq_false (by omega); clear c79; simp only [Option.some.injEq, Prod.mk.injEq] at H; obtain ⟨rfl, rfl⟩ := H; go_wp2
              go_ret2
              exact ⟨xR, bH HB.out⟩
 ·rw [if_neg c3] at H; have c3b0 : (t185 == 0) = false := beq_eq_false_iff_ne.mpr c3; have c3b1 : (t185 != 0) = true := bne_iff_ne.mpr c3; simp only [Option.some.injEq, Prod.mk.injEq] at H; obtain ⟨rfl, rfl⟩ := H; go_enter Tryd.func11, Tryd.ntmps11
  go_wp2_with (first | ((with_reducible refine gate_dst (N := 1) rfl ?_); refine bE 1 #[.int .i64 a0_0, .slice A0_1 l0_1.length c0_1, .int .u32 a0_2, .int .i64 a0_3, .string a0_4, .int .u64 a0_5, .int .u64 a0_6, .bool a0_7] 26 rfl rfl ?_; intro gb184 hg w80 hbox hb; have BK184 := rM hbox; have GW184 := rG HB hg; replace HB := rS HB hb; have GE184 := GW184; clear hb hbox hg; obtain ⟨hcz81, hfz81⟩ := d8 BK184) | ((with_reducible refine gate_callee (f := 22) rfl ?_); refine goesL_ (some 8) rfl rfl Tryd.func22 (by kernel_rfl) rfl #[.agg #[.int .i64 a0_0, .slice A0_1 l0_1.length c0_1, .int .u32 a0_2, .int .i64 a0_3, .string a0_4, .int .u64 a0_5, .int .u64 a0_6, .bool a0_7]] rfl (by (try simp only [List.map_toArray, List.map_cons, List.map_nil]); first | done | rfl | (simp only [List.length_drop, List.length_take]; rfl)) ?_; (with_reducible refine (tallboyref15_Check.calls k a0_0 _ _ l0_1 a0_2 a0_3 a0_4 a0_5 a0_6 a0_7 t185 _ ?side1 ?side2 A2.out).mono ?_); (case side1 => repeat (first | exact (Kd.C_below HR0_1.out HB.out) | (with_reducible refine Kd.C_alloc ?_ _) | (with_reducible refine Kd.C_drewN ?_ _) | (with_reducible refine Kd.C_drew ?_))); (case side2 => exact HC0_1.out); rintro e w82 ⟨rfl, hb⟩; refine ⟨_, rfl, ?_⟩; replace BK184 := rB BK184 hb; replace HB := rS HB hb; (try clear hb); ))
  go_ret2
  exact ⟨xR, bH HB.out⟩

end Go.Proofs.YtbfgopinbpbddaaDoor.P
