/- Lean functions for the Go functions that the laws of this seat use, and the proofs that the Go code computes them; conditions: the readings that each theorem names. Written by a program. -/
import Derived.Test.YtginfaencjmhgaaDoorPx0
import Derived.Test.YtginfaencjmhgaaDoorShort
namespace Go.Proofs.YtginfaencjmhgaaDoor.P
open Go.RowKit Go.Proofs.YtginfaencjmhgaaDoorW.PrintWords Go.Proofs.YtginfaencjmhgaaDoorW.PrintLast Go.Proofs.YtginfaencjmhgaaDoorW.PrintMore
attribute [local go_sem] min2_int min_two
set_option linter.unusedVariables false
set_option linter.unusedSimpArgs false

-- NOT PRINTED: function 49 (bytes_Equal)

-- NOT PRINTED: function 39 (bytes_HasSuffix)

-- NOT PRINTED: function 23 (bytes_TrimSuffix)

-- NOT PRINTED: function 24 (conn_Conn_value)

-- NOT PRINTED: function 13 (conn_Conn_Next)

/-! ### tallboylaw19_From: function 17 -/
-- NOT PRINTED: function 11 (tallboylaw19_all)

-- NOT PRINTED: function 8 (tallboylaw19_works)

/-! ### tallboyref17_SameCommands: function 16 -/
def tallboyref17_SameCommands.l0 : Nat → Int → Int → List ByteArray → Int → Int → ByteArray → Int → Int → Bool → Int → List ByteArray → Int → Int → ByteArray → Int → Int → Bool → Option (Bool)
 | 0, _, _, _, _, _, _, _, _, _, _, _, _, _, _, _, _, _ => none
 | k + 1, x5, z2, z0, z3, z4, z5, z6, z7, z8, z9, z1, za, zb, zc, zd, ze, zf => if x5 < (z0.length : Int) then (if 0 ≤ x5 then (if x5 < (z1.length : Int) then (if (rdOf ByteArray.empty z0 x5).toList = (rdOf ByteArray.empty z1 x5).toList then (tallboyref17_SameCommands.l0 k (wrap64 (x5 + 1)) z2 z0 z3 z4 z5 z6 z7 z8 z9 z1 za zb zc zd ze zf) else (some false)) else (none)) else (none)) else (if z2 = z9 then (if z3 = za then (if z4 = zb then (if z5.toList = zc.toList then (if z6 = zd then (if z7 = ze then (some (z8 == zf)) else (some false)) else (some false)) else (some false)) else (some false)) else (some false)) else (some false))
def tallboyref17_SameCommands.f (k : Nat) (a0_0 : Int) (l0_1 : List ByteArray) (a0_2 : Int) (a0_3 : Int) (a0_4 : ByteArray) (a0_5 : Int) (a0_6 : Int) (a0_7 : Bool) (a1_0 : Int) (l1_1 : List ByteArray) (a1_2 : Int) (a1_3 : Int) (a1_4 : ByteArray) (a1_5 : Int) (a1_6 : Int) (a1_7 : Bool) : Option (Bool) := if (l0_1.length : Int) = (l1_1.length : Int) then (tallboyref17_SameCommands.l0 k 0 a0_0 l0_1 a0_2 a0_3 a0_4 a0_5 a0_6 a0_7 a1_0 l1_1 a1_2 a1_3 a1_4 a1_5 a1_6 a1_7) else (some false)
theorem tallboyref17_SameCommands.mono_l : ∀ k, (∀ y0 y1 y2 y3 y4 y5 y6 y7 y8 y9 y10 y11 y12 y13 y14 y15 y16, LeO (tallboyref17_SameCommands.l0 k y0 y1 y2 y3 y4 y5 y6 y7 y8 y9 y10 y11 y12 y13 y14 y15 y16) (tallboyref17_SameCommands.l0 (k + 1) y0 y1 y2 y3 y4 y5 y6 y7 y8 y9 y10 y11 y12 y13 y14 y15 y16))
 | 0 => fun _ _ _ _ _ _ _ _ _ _ _ _ _ _ _ _ _ r h => by simp [tallboyref17_SameCommands.l0] at h
 | k + 1 => by
  have ih0 := tallboyref17_SameCommands.mono_l k
  ·intro y0 y1 y2 y3 y4 y5 y6 y7 y8 y9 y10 y11 y12 y13 y14 y15 y16
   unfold tallboyref17_SameCommands.l0
   repeat' first | (with_reducible first | apply ih0 | exact LeO.refl _ | exact LeO.none _ | refine LeO.ite ?_ ?_ | refine LeO.bind ?_ (fun _ => ?_)) | apply ih0 | exact LeO.none _ | refine LeO.ite ?_ ?_ | refine LeO.bind ?_ (fun _ => ?_)
theorem tallboyref17_SameCommands.mono : ∀ a0 a1 a2 a3 a4 a5 a6 a7 a8 a9 a10 a11 a12 a13 a14 a15 k, LeO (tallboyref17_SameCommands.f k a0 a1 a2 a3 a4 a5 a6 a7 a8 a9 a10 a11 a12 a13 a14 a15) (tallboyref17_SameCommands.f (k + 1) a0 a1 a2 a3 a4 a5 a6 a7 a8 a9 a10 a11 a12 a13 a14 a15) := by
 intro a0 a1 a2 a3 a4 a5 a6 a7 a8 a9 a10 a11 a12 a13 a14 a15 k
 have ih0 := tallboyref17_SameCommands.mono_l k; unfold tallboyref17_SameCommands.f
 repeat' first | (with_reducible first | apply ih0 | exact LeO.refl _ | exact LeO.none _ | refine LeO.ite ?_ ?_ | refine LeO.bind ?_ (fun _ => ?_)) | apply ih0 | exact LeO.none _ | refine LeO.ite ?_ ?_ | refine LeO.bind ?_ (fun _ => ?_)
set_option maxHeartbeats 8000000 in
set_option maxRecDepth 100000 in
theorem tallboyref17_SameCommands.calls (k : Nat) (a0_0 : Int) (A0_1 : Option Addr) (c0_1 : Nat) (l0_1 : List ByteArray) (a0_2 : Int) (a0_3 : Int) (a0_4 : ByteArray) (a0_5 : Int) (a0_6 : Int) (a0_7 : Bool) (a1_0 : Int) (A1_1 : Option Addr) (c1_1 : Nat) (l1_1 : List ByteArray) (a1_2 : Int) (a1_3 : Int) (a1_4 : ByteArray) (a1_5 : Int) (a1_6 : Int) (a1_7 : Bool) (r : Bool) (w : World) (hr0_1 : Kd.C Kd.string w A0_1 l0_1.length l0_1) (hc0_1 : l0_1.length ≤ c0_1) (hr1_1 : Kd.C Kd.string w A1_1 l1_1.length l1_1) (hc1_1 : l1_1.length ≤ c1_1) (h : tallboyref17_SameCommands.f k a0_0 l0_1 a0_2 a0_3 a0_4 a0_5 a0_6 a0_7 a1_0 l1_1 a1_2 a1_3 a1_4 a1_5 a1_6 a1_7 = some r) :
  Calls Tryd.prog 16 #[.agg #[.int .i64 a0_0, .slice A0_1 l0_1.length c0_1, .int .u32 a0_2, .int .i64 a0_3, .string a0_4, .int .u64 a0_5, .int .u64 a0_6, .bool a0_7], .agg #[.int .i64 a1_0, .slice A1_1 l1_1.length c1_1, .int .u32 a1_2, .int .i64 a1_3, .string a1_4, .int .u64 a1_5, .int .u64 a1_6, .bool a1_7]] w fun e w' => e = .returned (.bool r) ∧ Below w.heap.size w w' := by
 have hu37 := Tryd.underlying37; have HR0_1 := Aside0.mk hr0_1; have HC0_1 := Aside0.mk hc0_1; clear hr0_1 hc0_1; have HR1_1 := Aside0.mk hr1_1; have HC1_1 := Aside0.mk hc1_1; clear hr1_1 hc1_1; have HB := Aside0.mk (Below.refl w.heap.size w); have H : (if (l0_1.length : Int) = (l1_1.length : Int) then (tallboyref17_SameCommands.l0 k 0 a0_0 l0_1 a0_2 a0_3 a0_4 a0_5 a0_6 a0_7 a1_0 l1_1 a1_2 a1_3 a1_4 a1_5 a1_6 a1_7) else (some false)) = some r := h; clear h
 by_cases c3 : (l0_1.length : Int) = (l1_1.length : Int)
 ·rw [if_pos c3] at H; have c3b0 : ((l0_1.length : Int) == (l1_1.length : Int)) = true := beq_iff_eq.mpr c3; have c3b1 : ((l0_1.length : Int) != (l1_1.length : Int)) = false := bne_eq_false_iff_eq.mpr c3; have c3b2 : (l0_1.length == l1_1.length) = true := by first | simpa using c3 | (simp at c3 ⊢; omega)
  clear c3; have H' := Aside0.mk H; clear H; go_enter Tryd.func16, Tryd.ntmps16
  go_wp2_with (first | ((with_reducible refine gate_dst (N := 2) rfl ?_); refine bE 2 #[.int .i64 a0_0, .slice A0_1 l0_1.length c0_1, .int .u32 a0_2, .int .i64 a0_3, .string a0_4, .int .u64 a0_5, .int .u64 a0_6, .bool a0_7] 37 rfl rfl ?_; intro gb123 hg w4 hbox hb; have BK123 := rM hbox; have GW123 := rG HB hg; replace HB := rS HB hb; have GE123 := GW123; clear hb hbox hg) | ((with_reducible refine gate_dst (N := 3) rfl ?_); refine bE 3 #[.int .i64 a1_0, .slice A1_1 l1_1.length c1_1, .int .u32 a1_2, .int .i64 a1_3, .string a1_4, .int .u64 a1_5, .int .u64 a1_6, .bool a1_7] 37 rfl rfl ?_; intro gb124 hg w5 hbox hb; have BK124 := rM hbox; have GW124 := rG HB hg; replace HB := rS HB hb; have GE124 := GW124; have NB123_124 := rN BK123 hg; replace BK123 := rB BK123 hb; have NB124_123 := rY NB123_124; clear hb hbox hg; have hnb6 := rP NB123_124 NB124_123; obtain ⟨hcz7, hfz7⟩ := d8 BK123; obtain ⟨hcz8, hfz8⟩ := d8 BK124))
  repeat (go_quiet (first | ((with_reducible refine gate_dst (N := 2) rfl ?_); refine bE 2 #[.int .i64 a0_0, .slice A0_1 l0_1.length c0_1, .int .u32 a0_2, .int .i64 a0_3, .string a0_4, .int .u64 a0_5, .int .u64 a0_6, .bool a0_7] 37 rfl rfl ?_; intro gb123 hg w4 hbox hb; have BK123 := rM hbox; have GW123 := rG HB hg; replace HB := rS HB hb; have GE123 := GW123; clear hb hbox hg) | ((with_reducible refine gate_dst (N := 3) rfl ?_); refine bE 3 #[.int .i64 a1_0, .slice A1_1 l1_1.length c1_1, .int .u32 a1_2, .int .i64 a1_3, .string a1_4, .int .u64 a1_5, .int .u64 a1_6, .bool a1_7] 37 rfl rfl ?_; intro gb124 hg w5 hbox hb; have BK124 := rM hbox; have GW124 := rG HB hg; replace HB := rS HB hb; have GE124 := GW124; have NB123_124 := rN BK123 hg; replace BK123 := rB BK123 hb; have NB124_123 := rY NB123_124; clear hb hbox hg; have hnb6 := rP NB123_124 NB124_123; obtain ⟨hcz7, hfz7⟩ := d8 BK123; obtain ⟨hcz8, hfz8⟩ := d8 BK124)); try go_wp2_with (first | ((with_reducible refine gate_dst (N := 2) rfl ?_); refine bE 2 #[.int .i64 a0_0, .slice A0_1 l0_1.length c0_1, .int .u32 a0_2, .int .i64 a0_3, .string a0_4, .int .u64 a0_5, .int .u64 a0_6, .bool a0_7] 37 rfl rfl ?_; intro gb123 hg w4 hbox hb; have BK123 := rM hbox; have GW123 := rG HB hg; replace HB := rS HB hb; have GE123 := GW123; clear hb hbox hg) | ((with_reducible refine gate_dst (N := 3) rfl ?_); refine bE 3 #[.int .i64 a1_0, .slice A1_1 l1_1.length c1_1, .int .u32 a1_2, .int .i64 a1_3, .string a1_4, .int .u64 a1_5, .int .u64 a1_6, .bool a1_7] 37 rfl rfl ?_; intro gb124 hg w5 hbox hb; have BK124 := rM hbox; have GW124 := rG HB hg; replace HB := rS HB hb; have GE124 := GW124; have NB123_124 := rN BK123 hg; replace BK123 := rB BK123 hb; have NB124_123 := rY NB123_124; clear hb hbox hg; have hnb6 := rP NB123_124 NB124_123; obtain ⟨hcz7, hfz7⟩ := d8 BK123; obtain ⟨hcz8, hfz8⟩ := d8 BK124)))
  go_loopg [5] k (fun kq v5 w' => ∃ (x5_1 : Int), v5 = .int .i64 x5_1 ∧ Aside0 (tallboyref17_SameCommands.l0 kq x5_1 a0_0 l0_1 a0_2 a0_3 a0_4 a0_5 a0_6 a0_7 a1_0 l1_1 a1_2 a1_3 a1_4 a1_5 a1_6 a1_7 = some r) ∧ Aside0 (kq ≤ k) ∧ Aside0 (w'.heap[gb123]? = some (.cells #[.int .i64 a0_0, (.slice A0_1 l0_1.length c0_1), .int .u32 a0_2, .int .i64 a0_3, .string a0_4, .int .u64 a0_5, .int .u64 a0_6, .bool a0_7] 37 (0, 0))) ∧ Aside0 (w'.heap[gb124]? = some (.cells #[.int .i64 a1_0, (.slice A1_1 l1_1.length c1_1), .int .u32 a1_2, .int .i64 a1_3, .string a1_4, .int .u64 a1_5, .int .u64 a1_6, .bool a1_7] 37 (0, 0))) ∧ Aside0 (Below w.heap.size w w'))
  case atStart => exact ⟨(0), (by first | rfl | (simp; done) | (simp [*]; done)), H', ⟨Nat.le_refl _⟩, ⟨bK BK123.out⟩, ⟨bK BK124.out⟩, ⟨bH HB.out⟩⟩
  case round =>
   clear H'; (try clear c3); (try clear c3b0); (try clear c3b1); (try clear c3b2); (try clear hcz7); (try clear hcz8); (try clear hfz7); (try clear hfz8); obtain ⟨x5_1, rfl, HA, HK1, BK123, BK124, HB⟩ := hrel; cases gk with
   | zero => exact absurd HA.out (by simp [tallboyref17_SameCommands.l0])
   | succ k1 =>
    have H := HA.out; clear HA; simp only [tallboyref17_SameCommands.l0] at H
    by_cases c9 : x5_1 < (l0_1.length : Int)
    ·rw [if_pos c9] at H; have c9b0 : decide (x5_1 < (l0_1.length : Int)) = true := decide_eq_true c9; clear c9
     by_cases c10 : 0 ≤ x5_1
     ·rw [if_pos c10] at H; have c10b0 : decide (0 ≤ x5_1) = true := decide_eq_true c10; clear c10
      by_cases c11 : x5_1 < (l1_1.length : Int)
      ·rw [if_pos c11] at H; have c11b0 : decide (x5_1 < (l1_1.length : Int)) = true := decide_eq_true c11; clear c11
       by_cases c12 : (rdOf ByteArray.empty l0_1 x5_1).toList = (rdOf ByteArray.empty l1_1 x5_1).toList
       ·rw [if_pos c12] at H; have c12b0 : ((rdOf ByteArray.empty l0_1 x5_1).toList == (rdOf ByteArray.empty l1_1 x5_1).toList) = true := beq_iff_eq.mpr c12; have c12b1 : ((rdOf ByteArray.empty l0_1 x5_1).toList != (rdOf ByteArray.empty l1_1 x5_1).toList) = false := bne_eq_false_iff_eq.mpr c12; clear c12; have H' := Aside0.mk H; clear H; have hnb13 := rP NB123_124 NB124_123; obtain ⟨hcz14, hfz14⟩ := d8 BK123; have p125 : 0 ≤ (x5_1 : Int) := of_decide_eq_true (by first | (with_reducible assumption) | assumption); have q125 : x5_1 < (l0_1.length : Int) := of_decide_eq_true (by first | (with_reducible assumption) | assumption)
        obtain ⟨ad125, e125, hx125_0⟩ := Kd.at_string HR0_1.out x5_1 p125 q125; cases e125; replace hx125_0 := (HB.out.cell (World.block_lt_of_cell? w _ hx125_0)).trans hx125_0; replace p125 := eq_true p125; replace q125 := eq_true q125; obtain ⟨hcz15, hfz15⟩ := d8 BK124; have p126 : 0 ≤ (x5_1 : Int) := of_decide_eq_true (by first | (with_reducible assumption) | assumption); have q126 : x5_1 < (l1_1.length : Int) := of_decide_eq_true (by first | (with_reducible assumption) | assumption)
        obtain ⟨ad126, e126, hx126_0⟩ := Kd.at_string HR1_1.out x5_1 p126 q126; cases e126; replace hx126_0 := (HB.out.cell (World.block_lt_of_cell? w _ hx126_0)).trans hx126_0; replace p126 := eq_true p126; replace q126 := eq_true q126; go_wp2
        repeat (go_quiet (fail); try go_wp2)
        go_roundg k1
        case measure => have := HK1.out; omega
        case rel => exact ⟨(wrap64 (x5_1 + 1)), (by first | rfl | (simp; done) | (simp [*]; done)), H', ⟨by have := HK1.out; omega⟩, ⟨bK BK123.out⟩, ⟨bK BK124.out⟩, ⟨bH HB.out⟩⟩
       ·rw [if_neg c12] at H; have c12b0 : ((rdOf ByteArray.empty l0_1 x5_1).toList == (rdOf ByteArray.empty l1_1 x5_1).toList) = false := beq_eq_false_iff_ne.mpr c12; have c12b1 : ((rdOf ByteArray.empty l0_1 x5_1).toList != (rdOf ByteArray.empty l1_1 x5_1).toList) = true := bne_iff_ne.mpr c12; obtain rfl := Option.some.inj H; have hnb16 := rP NB123_124 NB124_123; obtain ⟨hcz17, hfz17⟩ := d8 BK123; have p125 : 0 ≤ (x5_1 : Int) := of_decide_eq_true (by first | (with_reducible assumption) | assumption); have q125 : x5_1 < (l0_1.length : Int) := of_decide_eq_true (by first | (with_reducible assumption) | assumption)
        obtain ⟨ad125, e125, hx125_0⟩ := Kd.at_string HR0_1.out x5_1 p125 q125; cases e125; replace hx125_0 := (HB.out.cell (World.block_lt_of_cell? w _ hx125_0)).trans hx125_0; replace p125 := eq_true p125; replace q125 := eq_true q125; obtain ⟨hcz18, hfz18⟩ := d8 BK124; have p126 : 0 ≤ (x5_1 : Int) := of_decide_eq_true (by first | (with_reducible assumption) | assumption); have q126 : x5_1 < (l1_1.length : Int) := of_decide_eq_true (by first | (with_reducible assumption) | assumption)
        obtain ⟨ad126, e126, hx126_0⟩ := Kd.at_string HR1_1.out x5_1 p126 q126; cases e126; replace hx126_0 := (HB.out.cell (World.block_lt_of_cell? w _ hx126_0)).trans hx126_0; replace p126 := eq_true p126; replace q126 := eq_true q126; go_wp2
        repeat (go_quiet (fail); try go_wp2)
        go_ret
        exact ⟨xR, bH HB.out⟩
      ·rw [if_neg c11] at H; exact absurd H (by simp)
     ·rw [if_neg c10] at H; exact absurd H (by simp)
    ·rw [if_neg c9] at H; have c9b0 : decide (x5_1 < (l0_1.length : Int)) = false := decide_eq_false c9; clear c9
     by_cases c19 : a0_0 = a1_0
     ·rw [if_pos c19] at H; have c19b0 : (a0_0 == a1_0) = true := beq_iff_eq.mpr c19; have c19b1 : (a0_0 != a1_0) = false := bne_eq_false_iff_eq.mpr c19; clear c19
      by_cases c20 : a0_2 = a1_2
      ·rw [if_pos c20] at H; have c20b0 : (a0_2 == a1_2) = true := beq_iff_eq.mpr c20; have c20b1 : (a0_2 != a1_2) = false := bne_eq_false_iff_eq.mpr c20; clear c20
       by_cases c21 : a0_3 = a1_3
       ·rw [if_pos c21] at H; have c21b0 : (a0_3 == a1_3) = true := beq_iff_eq.mpr c21; have c21b1 : (a0_3 != a1_3) = false := bne_eq_false_iff_eq.mpr c21; clear c21
        by_cases c22 : a0_4.toList = a1_4.toList
        ·rw [if_pos c22] at H; have c22b0 : (a0_4.toList == a1_4.toList) = true := beq_iff_eq.mpr c22; have c22b1 : (a0_4.toList != a1_4.toList) = false := bne_eq_false_iff_eq.mpr c22; clear c22
         by_cases c23 : a0_5 = a1_5
         ·rw [if_pos c23] at H; have c23b0 : (a0_5 == a1_5) = true := beq_iff_eq.mpr c23; have c23b1 : (a0_5 != a1_5) = false := bne_eq_false_iff_eq.mpr c23; clear c23
          by_cases c24 : a0_6 = a1_6
          ·rw [if_pos c24] at H; have c24b0 : (a0_6 == a1_6) = true := beq_iff_eq.mpr c24; have c24b1 : (a0_6 != a1_6) = false := bne_eq_false_iff_eq.mpr c24; clear c24; obtain rfl := Option.some.inj H; have hnb25 := rP NB123_124 NB124_123; obtain ⟨hcz26, hfz26⟩ := d8 BK123; obtain ⟨hcz27, hfz27⟩ := d8 BK124; go_wp2
           repeat (go_quiet (fail); try go_wp2)
           go_ret
           exact ⟨xR, bH HB.out⟩
          ·rw [if_neg c24] at H; have c24b0 : (a0_6 == a1_6) = false := beq_eq_false_iff_ne.mpr c24; have c24b1 : (a0_6 != a1_6) = true := bne_iff_ne.mpr c24; obtain rfl := Option.some.inj H; have hnb28 := rP NB123_124 NB124_123; obtain ⟨hcz29, hfz29⟩ := d8 BK123; obtain ⟨hcz30, hfz30⟩ := d8 BK124; go_wp2
           repeat (go_quiet (fail); try go_wp2)
           go_ret
           exact ⟨xR, bH HB.out⟩
         ·rw [if_neg c23] at H; have c23b0 : (a0_5 == a1_5) = false := beq_eq_false_iff_ne.mpr c23; have c23b1 : (a0_5 != a1_5) = true := bne_iff_ne.mpr c23; obtain rfl := Option.some.inj H; have hnb31 := rP NB123_124 NB124_123; obtain ⟨hcz32, hfz32⟩ := d8 BK123; obtain ⟨hcz33, hfz33⟩ := d8 BK124; go_wp2
          repeat (go_quiet (fail); try go_wp2)
          go_ret
          exact ⟨xR, bH HB.out⟩
        ·rw [if_neg c22] at H; have c22b0 : (a0_4.toList == a1_4.toList) = false := beq_eq_false_iff_ne.mpr c22; have c22b1 : (a0_4.toList != a1_4.toList) = true := bne_iff_ne.mpr c22; obtain rfl := Option.some.inj H; have hnb34 := rP NB123_124 NB124_123; obtain ⟨hcz35, hfz35⟩ := d8 BK123; obtain ⟨hcz36, hfz36⟩ := d8 BK124; go_wp2
         repeat (go_quiet (fail); try go_wp2)
         go_ret
         exact ⟨xR, bH HB.out⟩
       ·rw [if_neg c21] at H; have c21b0 : (a0_3 == a1_3) = false := beq_eq_false_iff_ne.mpr c21; have c21b1 : (a0_3 != a1_3) = true := bne_iff_ne.mpr c21; obtain rfl := Option.some.inj H; have hnb37 := rP NB123_124 NB124_123; obtain ⟨hcz38, hfz38⟩ := d8 BK123; obtain ⟨hcz39, hfz39⟩ := d8 BK124; go_wp2
        repeat (go_quiet (fail); try go_wp2)
        go_ret
        exact ⟨xR, bH HB.out⟩
      ·rw [if_neg c20] at H; have c20b0 : (a0_2 == a1_2) = false := beq_eq_false_iff_ne.mpr c20; have c20b1 : (a0_2 != a1_2) = true := bne_iff_ne.mpr c20; obtain rfl := Option.some.inj H; have hnb40 := rP NB123_124 NB124_123; obtain ⟨hcz41, hfz41⟩ := d8 BK123; obtain ⟨hcz42, hfz42⟩ := d8 BK124; go_wp2
       repeat (go_quiet (fail); try go_wp2)
       go_ret
       exact ⟨xR, bH HB.out⟩
     ·rw [if_neg c19] at H; have c19b0 : (a0_0 == a1_0) = false := beq_eq_false_iff_ne.mpr c19; have c19b1 : (a0_0 != a1_0) = true := bne_iff_ne.mpr c19; obtain rfl := Option.some.inj H; have hnb43 := rP NB123_124 NB124_123; obtain ⟨hcz44, hfz44⟩ := d8 BK123; obtain ⟨hcz45, hfz45⟩ := d8 BK124; go_wp2
      repeat (go_quiet (fail); try go_wp2)
      go_ret
      exact ⟨xR, bH HB.out⟩
 ·rw [if_neg c3] at H; have c3b0 : ((l0_1.length : Int) == (l1_1.length : Int)) = false := beq_eq_false_iff_ne.mpr c3; have c3b1 : ((l0_1.length : Int) != (l1_1.length : Int)) = true := bne_iff_ne.mpr c3; have c3b2 : (l0_1.length == l1_1.length) = false := by first | simpa using c3 | (simp at c3 ⊢; omega)
  obtain rfl := Option.some.inj H; go_enter Tryd.func16, Tryd.ntmps16
  go_wp2_with (first | ((with_reducible refine gate_dst (N := 2) rfl ?_); refine bE 2 #[.int .i64 a0_0, .slice A0_1 l0_1.length c0_1, .int .u32 a0_2, .int .i64 a0_3, .string a0_4, .int .u64 a0_5, .int .u64 a0_6, .bool a0_7] 37 rfl rfl ?_; intro gb123 hg w46 hbox hb; have BK123 := rM hbox; have GW123 := rG HB hg; replace HB := rS HB hb; have GE123 := GW123; clear hb hbox hg) | ((with_reducible refine gate_dst (N := 3) rfl ?_); refine bE 3 #[.int .i64 a1_0, .slice A1_1 l1_1.length c1_1, .int .u32 a1_2, .int .i64 a1_3, .string a1_4, .int .u64 a1_5, .int .u64 a1_6, .bool a1_7] 37 rfl rfl ?_; intro gb124 hg w47 hbox hb; have BK124 := rM hbox; have GW124 := rG HB hg; replace HB := rS HB hb; have GE124 := GW124; have NB123_124 := rN BK123 hg; replace BK123 := rB BK123 hb; have NB124_123 := rY NB123_124; clear hb hbox hg; have hnb48 := rP NB123_124 NB124_123; obtain ⟨hcz49, hfz49⟩ := d8 BK123; obtain ⟨hcz50, hfz50⟩ := d8 BK124))
  repeat (go_quiet (first | ((with_reducible refine gate_dst (N := 2) rfl ?_); refine bE 2 #[.int .i64 a0_0, .slice A0_1 l0_1.length c0_1, .int .u32 a0_2, .int .i64 a0_3, .string a0_4, .int .u64 a0_5, .int .u64 a0_6, .bool a0_7] 37 rfl rfl ?_; intro gb123 hg w46 hbox hb; have BK123 := rM hbox; have GW123 := rG HB hg; replace HB := rS HB hb; have GE123 := GW123; clear hb hbox hg) | ((with_reducible refine gate_dst (N := 3) rfl ?_); refine bE 3 #[.int .i64 a1_0, .slice A1_1 l1_1.length c1_1, .int .u32 a1_2, .int .i64 a1_3, .string a1_4, .int .u64 a1_5, .int .u64 a1_6, .bool a1_7] 37 rfl rfl ?_; intro gb124 hg w47 hbox hb; have BK124 := rM hbox; have GW124 := rG HB hg; replace HB := rS HB hb; have GE124 := GW124; have NB123_124 := rN BK123 hg; replace BK123 := rB BK123 hb; have NB124_123 := rY NB123_124; clear hb hbox hg; have hnb48 := rP NB123_124 NB124_123; obtain ⟨hcz49, hfz49⟩ := d8 BK123; obtain ⟨hcz50, hfz50⟩ := d8 BK124)); try go_wp2_with (first | ((with_reducible refine gate_dst (N := 2) rfl ?_); refine bE 2 #[.int .i64 a0_0, .slice A0_1 l0_1.length c0_1, .int .u32 a0_2, .int .i64 a0_3, .string a0_4, .int .u64 a0_5, .int .u64 a0_6, .bool a0_7] 37 rfl rfl ?_; intro gb123 hg w46 hbox hb; have BK123 := rM hbox; have GW123 := rG HB hg; replace HB := rS HB hb; have GE123 := GW123; clear hb hbox hg) | ((with_reducible refine gate_dst (N := 3) rfl ?_); refine bE 3 #[.int .i64 a1_0, .slice A1_1 l1_1.length c1_1, .int .u32 a1_2, .int .i64 a1_3, .string a1_4, .int .u64 a1_5, .int .u64 a1_6, .bool a1_7] 37 rfl rfl ?_; intro gb124 hg w47 hbox hb; have BK124 := rM hbox; have GW124 := rG HB hg; replace HB := rS HB hb; have GE124 := GW124; have NB123_124 := rN BK123 hg; replace BK123 := rB BK123 hb; have NB124_123 := rY NB123_124; clear hb hbox hg; have hnb48 := rP NB123_124 NB124_123; obtain ⟨hcz49, hfz49⟩ := d8 BK123; obtain ⟨hcz50, hfz50⟩ := d8 BK124)))
  go_ret
  exact ⟨xR, bH HB.out⟩

/-! ### tallboyref19_Same: function 18 -/
def tallboyref19_Same.f (k : Nat) (a0_0 : Int) (a0_1 : Int) (l0_2 : List ByteArray) (a0_3 : Int) (a0_4 : Int) (a0_5 : ByteArray) (a0_6 : Int) (a0_7 : Int) (a0_8 : Bool) (a1_0 : Int) (a1_1 : Int) (l1_2 : List ByteArray) (a1_3 : Int) (a1_4 : Int) (a1_5 : ByteArray) (a1_6 : Int) (a1_7 : Int) (a1_8 : Bool) : Option (Bool) := if a0_0 = a1_0 then ((tallboyref17_SameCommands.f k a0_1 l0_2 a0_3 a0_4 a0_5 a0_6 a0_7 a0_8 a1_1 l1_2 a1_3 a1_4 a1_5 a1_6 a1_7 a1_8).bind fun t129 => (some t129)) else (some false)
theorem tallboyref19_Same.mono : ∀ a0 a1 a2 a3 a4 a5 a6 a7 a8 a9 a10 a11 a12 a13 a14 a15 a16 a17 k, LeO (tallboyref19_Same.f k a0 a1 a2 a3 a4 a5 a6 a7 a8 a9 a10 a11 a12 a13 a14 a15 a16 a17) (tallboyref19_Same.f (k + 1) a0 a1 a2 a3 a4 a5 a6 a7 a8 a9 a10 a11 a12 a13 a14 a15 a16 a17) := by
 intro a0 a1 a2 a3 a4 a5 a6 a7 a8 a9 a10 a11 a12 a13 a14 a15 a16 a17 k
 unfold tallboyref19_Same.f
 repeat' first | (with_reducible first | apply tallboyref17_SameCommands.mono | exact LeO.refl _ | exact LeO.none _ | refine LeO.ite ?_ ?_ | refine LeO.bind ?_ (fun _ => ?_)) | apply tallboyref17_SameCommands.mono | exact LeO.none _ | refine LeO.ite ?_ ?_ | refine LeO.bind ?_ (fun _ => ?_)
set_option maxHeartbeats 8000000 in
set_option maxRecDepth 100000 in
theorem tallboyref19_Same.calls (k : Nat) (a0_0 : Int) (a0_1 : Int) (A0_2 : Option Addr) (c0_2 : Nat) (l0_2 : List ByteArray) (a0_3 : Int) (a0_4 : Int) (a0_5 : ByteArray) (a0_6 : Int) (a0_7 : Int) (a0_8 : Bool) (a1_0 : Int) (a1_1 : Int) (A1_2 : Option Addr) (c1_2 : Nat) (l1_2 : List ByteArray) (a1_3 : Int) (a1_4 : Int) (a1_5 : ByteArray) (a1_6 : Int) (a1_7 : Int) (a1_8 : Bool) (r : Bool) (w : World) (hr0_2 : Kd.C Kd.string w A0_2 l0_2.length l0_2) (hc0_2 : l0_2.length ≤ c0_2) (hr1_2 : Kd.C Kd.string w A1_2 l1_2.length l1_2) (hc1_2 : l1_2.length ≤ c1_2) (h : tallboyref19_Same.f k a0_0 a0_1 l0_2 a0_3 a0_4 a0_5 a0_6 a0_7 a0_8 a1_0 a1_1 l1_2 a1_3 a1_4 a1_5 a1_6 a1_7 a1_8 = some r) :
  Calls Tryd.prog 18 #[.agg #[.int .i64 a0_0, .int .i64 a0_1, .slice A0_2 l0_2.length c0_2, .int .u32 a0_3, .int .i64 a0_4, .string a0_5, .int .u64 a0_6, .int .u64 a0_7, .bool a0_8], .agg #[.int .i64 a1_0, .int .i64 a1_1, .slice A1_2 l1_2.length c1_2, .int .u32 a1_3, .int .i64 a1_4, .string a1_5, .int .u64 a1_6, .int .u64 a1_7, .bool a1_8]] w fun e w' => e = .returned (.bool r) ∧ Below w.heap.size w w' := by
 have hu50 := Tryd.underlying50; have hu37 := Tryd.underlying37; have HR0_2 := Aside0.mk hr0_2; have HC0_2 := Aside0.mk hc0_2; clear hr0_2 hc0_2; have HR1_2 := Aside0.mk hr1_2; have HC1_2 := Aside0.mk hc1_2; clear hr1_2 hc1_2; have HB := Aside0.mk (Below.refl w.heap.size w); have H : (if a0_0 = a1_0 then ((tallboyref17_SameCommands.f k a0_1 l0_2 a0_3 a0_4 a0_5 a0_6 a0_7 a0_8 a1_1 l1_2 a1_3 a1_4 a1_5 a1_6 a1_7 a1_8).bind fun t129 => (some t129)) else (some false)) = some r := h; clear h
 by_cases c3 : a0_0 = a1_0
 ·rw [if_pos c3] at H; have c3b0 : (a0_0 == a1_0) = true := beq_iff_eq.mpr c3; have c3b1 : (a0_0 != a1_0) = false := bne_eq_false_iff_eq.mpr c3; clear c3; replace H := Option.bind_eq_some_iff.mp H; obtain ⟨t129, A40, H⟩ := H; (try dsimp only at H); have A4 := Aside0.mk A40; clear A40; obtain rfl := Option.some.inj H; go_enter Tryd.func18, Tryd.ntmps18
  go_wp2_with (first | ((with_reducible refine gate_dst (N := 2) rfl ?_); refine bE 2 #[.int .i64 a0_0, .int .i64 a0_1, .slice A0_2 l0_2.length c0_2, .int .u32 a0_3, .int .i64 a0_4, .string a0_5, .int .u64 a0_6, .int .u64 a0_7, .bool a0_8] 50 rfl rfl ?_; intro gb127 hg w5 hbox hb; have BK127 := rM hbox; have GW127 := rG HB hg; replace HB := rS HB hb; have GE127 := GW127; clear hb hbox hg) | ((with_reducible refine gate_dst (N := 3) rfl ?_); refine bE 3 #[.int .i64 a1_0, .int .i64 a1_1, .slice A1_2 l1_2.length c1_2, .int .u32 a1_3, .int .i64 a1_4, .string a1_5, .int .u64 a1_6, .int .u64 a1_7, .bool a1_8] 50 rfl rfl ?_; intro gb128 hg w6 hbox hb; have BK128 := rM hbox; have GW128 := rG HB hg; replace HB := rS HB hb; have GE128 := GW128; have NB127_128 := rN BK127 hg; replace BK127 := rB BK127 hb; have NB128_127 := rY NB127_128; clear hb hbox hg; have hnb7 := rP NB127_128 NB128_127; obtain ⟨hcz8, hfz8⟩ := d9 BK127; obtain ⟨hcz9, hfz9⟩ := d9 BK128) | (go_at_call 16; (with_reducible refine (tallboyref17_SameCommands.calls k a0_1 _ _ l0_2 a0_3 a0_4 a0_5 a0_6 a0_7 a0_8 a1_1 _ _ l1_2 a1_3 a1_4 a1_5 a1_6 a1_7 a1_8 t129 _ ?side1 ?side2 ?side3 ?side4 A4.out).mono ?_); (case side1 => repeat (first | exact (Kd.C_below HR0_2.out HB.out) | (with_reducible refine Kd.C_alloc ?_ _) | (with_reducible refine Kd.C_drewN ?_ _) | (with_reducible refine Kd.C_drew ?_))); (case side2 => exact HC0_2.out); (case side3 => repeat (first | exact (Kd.C_below HR1_2.out HB.out) | (with_reducible refine Kd.C_alloc ?_ _) | (with_reducible refine Kd.C_drewN ?_ _) | (with_reducible refine Kd.C_drew ?_))); (case side4 => exact HC1_2.out); rintro e w10 ⟨rfl, hb⟩; replace BK127 := rB BK127 hb; replace BK128 := rB BK128 hb; replace HB := rS HB hb; (try clear hb); ))
  go_ret
  exact ⟨xR, bH HB.out⟩
 ·rw [if_neg c3] at H; have c3b0 : (a0_0 == a1_0) = false := beq_eq_false_iff_ne.mpr c3; have c3b1 : (a0_0 != a1_0) = true := bne_iff_ne.mpr c3; obtain rfl := Option.some.inj H; go_enter Tryd.func18, Tryd.ntmps18
  go_wp2_with (first | ((with_reducible refine gate_dst (N := 2) rfl ?_); refine bE 2 #[.int .i64 a0_0, .int .i64 a0_1, .slice A0_2 l0_2.length c0_2, .int .u32 a0_3, .int .i64 a0_4, .string a0_5, .int .u64 a0_6, .int .u64 a0_7, .bool a0_8] 50 rfl rfl ?_; intro gb127 hg w11 hbox hb; have BK127 := rM hbox; have GW127 := rG HB hg; replace HB := rS HB hb; have GE127 := GW127; clear hb hbox hg) | ((with_reducible refine gate_dst (N := 3) rfl ?_); refine bE 3 #[.int .i64 a1_0, .int .i64 a1_1, .slice A1_2 l1_2.length c1_2, .int .u32 a1_3, .int .i64 a1_4, .string a1_5, .int .u64 a1_6, .int .u64 a1_7, .bool a1_8] 50 rfl rfl ?_; intro gb128 hg w12 hbox hb; have BK128 := rM hbox; have GW128 := rG HB hg; replace HB := rS HB hb; have GE128 := GW128; have NB127_128 := rN BK127 hg; replace BK127 := rB BK127 hb; have NB128_127 := rY NB127_128; clear hb hbox hg; have hnb13 := rP NB127_128 NB128_127; obtain ⟨hcz14, hfz14⟩ := d9 BK127; obtain ⟨hcz15, hfz15⟩ := d9 BK128))
  go_ret
  exact ⟨xR, bH HB.out⟩

end Go.Proofs.YtginfaencjmhgaaDoor.P
