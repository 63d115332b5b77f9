/- Lean functions for the Go functions that the laws of this seat use, and the proofs that the Go code computes them; conditions: the readings that each theorem names. Written by a program. -/
import Derived.Test.YtdepkgikdmlgiaaPx0
import Derived.Test.YtdepkgikdmlgiaaPx5
import Derived.Test.YtdepkgikdmlgiaaShort
namespace Go.Proofs.Ytdepkgikdmlgiaa.P
open Go.RowKit Go.Proofs.YtdepkgikdmlgiaaW.PrintWords Go.Proofs.YtdepkgikdmlgiaaW.PrintLast Go.Proofs.YtdepkgikdmlgiaaW.PrintMore
set_option linter.unusedVariables false
set_option linter.unusedSimpArgs false

/-! ### tallboyref29_Pack: function 14 -/
def tallboyref29_Pack.j0 : Nat → Int → Bool → Int → Int → Int → Int → ByteArray → ByteArray → ByteArray → Option (ByteArray × Int)
 | 0, _, _, _, _, _, _, _, _, _ => none
 | k + 1, x4, x111000, x111001, x111002, x111003, x111004, x111005, x111006, x111007 => (tallboyref29_Put.f k x4 1).bind fun t112 => ((tallboyref29_Put.f k (IntKind.u64.wrap (x111001)) 1).bind fun t113 => (if t112.size + t113.size ≤ 9223372036854775807 then ((tallboyref29_Put.f k (IntKind.u64.wrap ((x111006.size : Int))) 2).bind fun t114 => (if (t112 ++ t113).size + t114.size ≤ 9223372036854775807 then ((tallboyref29_Put.f k (IntKind.u64.wrap ((x111005.size : Int))) 1).bind fun t115 => (if ((t112 ++ t113) ++ t114).size + t115.size ≤ 9223372036854775807 then ((tallboyref29_Put.f k 0 1).bind fun t116 => (if (((t112 ++ t113) ++ t114) ++ t115).size + t116.size ≤ 9223372036854775807 then ((tallboyref29_Put.f k (IntKind.u64.wrap (x111002)) 2).bind fun t117 => (if ((((t112 ++ t113) ++ t114) ++ t115) ++ t116).size + t117.size ≤ 9223372036854775807 then ((tallboyref29_Put.f k (IntKind.u64.wrap (wrap64 ((wrap64 ((x111005.size : Int) + (x111006.size : Int))) + (x111007.size : Int)))) 4).bind fun t118 => (if (((((t112 ++ t113) ++ t114) ++ t115) ++ t116) ++ t117).size + t118.size ≤ 9223372036854775807 then ((tallboyref29_Put.f k (IntKind.u64.wrap (x111003)) 4).bind fun t119 => (if ((((((t112 ++ t113) ++ t114) ++ t115) ++ t116) ++ t117) ++ t118).size + t119.size ≤ 9223372036854775807 then ((tallboyref29_Put.f k x111004 8).bind fun t120 => (if (((((((t112 ++ t113) ++ t114) ++ t115) ++ t116) ++ t117) ++ t118) ++ t119).size + t120.size ≤ 9223372036854775807 then (if ((((((((t112 ++ t113) ++ t114) ++ t115) ++ t116) ++ t117) ++ t118) ++ t119) ++ t120).size + x111005.size ≤ 9223372036854775807 then (if (((((((((t112 ++ t113) ++ t114) ++ t115) ++ t116) ++ t117) ++ t118) ++ t119) ++ t120) ++ x111005).size + x111006.size ≤ 9223372036854775807 then (if ((((((((((t112 ++ t113) ++ t114) ++ t115) ++ t116) ++ t117) ++ t118) ++ t119) ++ t120) ++ x111005) ++ x111006).size + x111007.size ≤ 9223372036854775807 then (some (((((((((((t112 ++ t113) ++ t114) ++ t115) ++ t116) ++ t117) ++ t118) ++ t119) ++ t120) ++ x111005) ++ x111006) ++ x111007, 0)) else (none)) else (none)) else (none)) else (none))) else (none))) else (none))) else (none))) else (none))) else (none))) else (none))) else (none)))
def tallboyref29_Pack.f (k : Nat) (a0_0 : Bool) (a0_1 : Int) (a0_2 : Int) (a0_3 : Int) (a0_4 : Int) (a0_5 : ByteArray) (a0_6 : ByteArray) (a0_7 : ByteArray) : Option (ByteArray × Int) := (tallboyref29_may.f a0_0 a0_1 a0_2 a0_3 a0_4 a0_5 a0_6 a0_7).bind fun t111 => (if t111 = true then (if a0_0 = true then (tallboyref29_Pack.j0 k 129 a0_0 a0_1 a0_2 a0_3 a0_4 a0_5 a0_6 a0_7) else (tallboyref29_Pack.j0 k 128 a0_0 a0_1 a0_2 a0_3 a0_4 a0_5 a0_6 a0_7)) else (some ((⟨#[]⟩ : ByteArray), 7)))
theorem tallboyref29_Pack.mono_l : ∀ k, (∀ y0 y1 y2 y3 y4 y5 y6 y7 y8, LeO (tallboyref29_Pack.j0 k y0 y1 y2 y3 y4 y5 y6 y7 y8) (tallboyref29_Pack.j0 (k + 1) y0 y1 y2 y3 y4 y5 y6 y7 y8))
 | 0 => fun _ _ _ _ _ _ _ _ _ r h => by simp [tallboyref29_Pack.j0] at h
 | k + 1 => by
  have ih0 := tallboyref29_Pack.mono_l k
  ·intro y0 y1 y2 y3 y4 y5 y6 y7 y8
   unfold tallboyref29_Pack.j0
   repeat' first
   | (with_reducible exact ih0 _ _ _ _ _ _ _ _ _)
   | (with_reducible exact tallboyref29_Put.mono _ _ _)
   | (with_reducible exact LeO.refl _)
   | (with_reducible exact LeO.none _)
   | (with_reducible refine LeO.ite ?_ ?_)
   | (with_reducible refine LeO.bind ?_ (fun _ => ?_))
   | exact ih0 _ _ _ _ _ _ _ _ _
   | exact tallboyref29_Put.mono _ _ _
   | exact LeO.none _
   | refine LeO.ite ?_ ?_
   | refine LeO.bind ?_ (fun _ => ?_)
theorem tallboyref29_Pack.mono : ∀ a0 a1 a2 a3 a4 a5 a6 a7 k, LeO (tallboyref29_Pack.f k a0 a1 a2 a3 a4 a5 a6 a7) (tallboyref29_Pack.f (k + 1) a0 a1 a2 a3 a4 a5 a6 a7) := by
 intro a0 a1 a2 a3 a4 a5 a6 a7 k
 have ih0 := tallboyref29_Pack.mono_l k; unfold tallboyref29_Pack.f
 repeat' first
   | (with_reducible exact ih0 _ _ _ _ _ _ _ _ _)
   | (with_reducible exact tallboyref29_Put.mono _ _ _)
   | (with_reducible exact LeO.refl _)
   | (with_reducible exact LeO.none _)
   | (with_reducible refine LeO.ite ?_ ?_)
   | (with_reducible refine LeO.bind ?_ (fun _ => ?_))
   | exact ih0 _ _ _ _ _ _ _ _ _
   | exact tallboyref29_Put.mono _ _ _
   | exact LeO.none _
   | refine LeO.ite ?_ ?_
   | refine LeO.bind ?_ (fun _ => ?_)
def tallboyref29_Pack.T6 : Bool × List (List Nat × List Nat) := (true, [([], []), ([0], [0]), ([], []), ([2], [2]), ([3], [3]), ([4, 1], [4]), ([1, 5], [1, 5]), ([], []), ([7], [7]), ([8], [8]), ([9], [9]), ([10, 5], [10]), ([6, 11], [6, 11]), ([], []), ([13], [13]), ([14], [14]), ([15], [15]), ([16, 11], [16]), ([12, 17], [12, 17]), ([17], []), ([18, 19], [18, 19]), ([], []), ([21], [21]), ([22], [22]), ([23, 19], [23]), ([20, 24], [20, 24]), ([25, 24, 0, 1, 2, 3, 4, 5, 6, 7, 8, 9, 10, 11, 12, 13, 14, 15, 16, 17, 18, 19, 20, 21, 22, 23, 24, 25], [25])])
def tallboyref29_Pack.B6 : List Nat := [0, 1, 0, 4, 12, 31, 63, 0, 128, 384, 896, 1983, 4095, 0, 8192, 24576, 57344, 126911, 262143, 257983, 1048575, 0, 2097152, 6291456, 15462335, 33554431, 67108863]
theorem tallboyref29_Pack.tab6 : rtab .any (opsOf Try.f14 6) = tallboyref29_Pack.T6 := by kernel_rfl
theorem tallboyref29_Pack.bits6 : waitsOk tallboyref29_Pack.T6.2 tallboyref29_Pack.B6 = true := by kernel_rfl
def tallboyref29_Pack.T7 : Bool × List (List Nat × List Nat) := (true, [([], []), ([], []), ([1], [1]), ([2], [2]), ([], []), ([4], [4]), ([5], [5]), ([3, 6], [3, 6]), ([], []), ([8], [8]), ([9], [9]), ([7, 10], [7, 10]), ([11], [11]), ([12], [12]), ([0, 13], [0, 13]), ([], []), ([15], [15]), ([16], [16]), ([17, 13], [17]), ([14, 18], [14, 18]), ([], []), ([20], [20]), ([21, 18], [21]), ([19, 22], [19, 22]), ([23, 22, 0, 1, 2, 3, 4, 5, 6, 7, 8, 9, 10, 11, 12, 13, 14, 15, 16, 17, 18, 19, 20, 21, 22, 23], [0, 23])])
def tallboyref29_Pack.B7 : List Nat := [0, 0, 2, 6, 0, 16, 48, 126, 0, 256, 768, 2046, 4094, 8190, 16383, 0, 32768, 98304, 245758, 524287, 0, 1048576, 3653630, 8388607, 16777215]
theorem tallboyref29_Pack.tab7 : rtab .any (opsOf Try.f14 7) = tallboyref29_Pack.T7 := by kernel_rfl
theorem tallboyref29_Pack.bits7 : waitsOk tallboyref29_Pack.T7.2 tallboyref29_Pack.B7 = true := by kernel_rfl
set_option maxHeartbeats 8000000 in
set_option maxRecDepth 100000 in
theorem tallboyref29_Pack.calls (k : Nat) (a0_0 : Bool) (a0_1 : Int) (a0_2 : Int) (a0_3 : Int) (a0_4 : Int) (a0_5 : ByteArray) (a0_6 : ByteArray) (a0_7 : ByteArray) (r1 : ByteArray) (r2 : Int) (w : World) (h : tallboyref29_Pack.f k a0_0 a0_1 a0_2 a0_3 a0_4 a0_5 a0_6 a0_7 = some (r1, r2)) :
  Calls Try.prog 14 #[.agg #[.bool a0_0, .int .u8 a0_1, .int .u16 a0_2, .int .u32 a0_3, .int .u64 a0_4, .string a0_5, .string a0_6, .string a0_7]] w fun e w' => e = .returned (.tuple #[.string r1, .int .i64 r2]) ∧ Below w.heap.size w w' := by
 have hu26 := Try.underlying26; have HB := Aside0.mk (Below.refl w.heap.size w); have H : ((tallboyref29_may.f a0_0 a0_1 a0_2 a0_3 a0_4 a0_5 a0_6 a0_7).bind fun t111 => (if t111 = true then (if a0_0 = true then (tallboyref29_Pack.j0 k 129 a0_0 a0_1 a0_2 a0_3 a0_4 a0_5 a0_6 a0_7) else (tallboyref29_Pack.j0 k 128 a0_0 a0_1 a0_2 a0_3 a0_4 a0_5 a0_6 a0_7)) else (some ((⟨#[]⟩ : ByteArray), 7)))) = some (r1, r2) := h; clear h; replace H := Option.bind_eq_some_iff.mp H; obtain ⟨t111, A20, H⟩ := H; replace H : (if t111 = true then (if a0_0 = true then (tallboyref29_Pack.j0 k 129 a0_0 a0_1 a0_2 a0_3 a0_4 a0_5 a0_6 a0_7) else (tallboyref29_Pack.j0 k 128 a0_0 a0_1 a0_2 a0_3 a0_4 a0_5 a0_6 a0_7)) else (some ((⟨#[]⟩ : ByteArray), 7))) = some (r1, r2) := H; have A2 := Aside0.mk A20; clear A20
 by_cases c3 : t111 = true
 ·subst c3; have H1 : (if a0_0 = true then (tallboyref29_Pack.j0 k 129 a0_0 a0_1 a0_2 a0_3 a0_4 a0_5 a0_6 a0_7) else (tallboyref29_Pack.j0 k 128 a0_0 a0_1 a0_2 a0_3 a0_4 a0_5 a0_6 a0_7)) = some (r1, r2) := by rw [if_pos rfl] at H; exact H
  clear H; have H := H1; clear H1; have HC4 := Aside0.mk H; clear H; go_enter Try.func14, Try.ntmps14
  go_upto_if 10 with (first | ((with_reducible refine gate_dst (N := 1) rfl ?_); refine box_event ?hg (N := 1) ?hd (cs := #[.bool a0_0, .int .u8 a0_1, .int .u16 a0_2, .int .u32 a0_3, .int .u64 a0_4, .string a0_5, .string a0_6, .string a0_7]) (t := 26) ?hr ?_; (case hd => rfl); (case hg => rfl); (case hr => first | (go_simp; done) | (go_simp; rfl)); intro gb110 hg w5 hbox hb; have n0_ := Aside0.mk (below_step (by repeat (first | (with_reducible first | exact HB.out | apply eA | apply eN | apply eD) | exact HB.out)) hb); have n1_ := Aside0.mk (hbox); have n2_ := Aside0.mk ((by rw [hg]; exact (below_size (by repeat (first | (with_reducible first | exact HB.out | apply eA | apply eN | apply eD) | exact HB.out))) : w.heap.size ≤ gb110)); have n3_ := n2_; clear HB; have HB := n0_; have BK110 := n1_; have GW110 := n2_; have GE110 := n3_; clear n0_ n1_ n2_ n3_; clear hb hbox hg; obtain ⟨hcz6_0, hcz6_1, hcz6_2, hcz6_3, hcz6_4, hcz6_5, hcz6_6, hcz6_7, hfz6_0, hfz6_1, hfz6_2, hfz6_3, hfz6_4, hfz6_5, hfz6_6, hfz6_7⟩ := c8 BK110.out) | ((with_reducible refine gate_callee (f := 39) rfl ?_); refine goesL_ (some 7) rfl rfl Try.func39 (by kernel_rfl) rfl #[.agg #[.bool a0_0, .int .u8 a0_1, .int .u16 a0_2, .int .u32 a0_3, .int .u64 a0_4, .string a0_5, .string a0_6, .string a0_7]] rfl (by (try simp only [List.map_toArray, List.map_cons, List.map_nil]); first | done | rfl | (simp only [List.length_drop, List.length_take]; rfl)) ?_; (with_reducible refine (tallboyref29_may.calls a0_0 a0_1 a0_2 a0_3 a0_4 a0_5 a0_6 a0_7 true _ A2.out).mono ?_); rintro e w7 ⟨rfl, hb⟩; refine ⟨_, rfl, ?_⟩; have n0_ := Aside0.mk (blk_below (g := gb110) (o := .cells #[.bool a0_0, .int .u8 a0_1, .int .u16 a0_2, .int .u32 a0_3, .int .u64 a0_4, .string a0_5, .string a0_6, .string a0_7] 26 (0, 0)) (by (with_reducible repeat (first | refine bN ?_ _ | refine bD ?_ | refine bA ?_ _)); exact BK110.out) hb); have n1_ := Aside0.mk (below_step (by repeat (first | (with_reducible first | exact HB.out | apply eA | apply eN | apply eD | refine eS ?_ GE110.out) | exact HB.out)) hb); clear BK110; clear HB; have BK110 := n0_; have HB := n1_; clear n0_ n1_; (try clear hb); (try clear hb2); (try clear hk); (try clear hi); obtain ⟨hcz8_0, hcz8_1, hcz8_2, hcz8_3, hcz8_4, hcz8_5, hcz8_6, hcz8_7, hfz8_0, hfz8_1, hfz8_2, hfz8_3, hfz8_4, hfz8_5, hfz8_6, hfz8_7⟩ := c8 BK110.out))
  (try simp only [Act.put, sA, sB, sC])
  go_cut [4] (fun v4 wc => ∃ (kq : Nat) (x4_3 : Int), v4 = .int .u64 x4_3 ∧ Aside0 (tallboyref29_Pack.j0 kq x4_3 a0_0 a0_1 a0_2 a0_3 a0_4 a0_5 a0_6 a0_7 = some (r1, r2)) ∧ Aside0 (kq ≤ k) ∧ Aside0 (wc.heap[gb110]? = some (.cells #[.bool a0_0, .int .u8 a0_1, .int .u16 a0_2, .int .u32 a0_3, .int .u64 a0_4, .string a0_5, .string a0_6, .string a0_7] 26 (0, 0))) ∧ Aside0 (Below w.heap.size w wc))
  case first =>
   have H := HC4.out; clear HC4
   by_cases c9 : a0_0 = true
   ·subst c9; have H1 : (tallboyref29_Pack.j0 k 129 true a0_1 a0_2 a0_3 a0_4 a0_5 a0_6 a0_7) = some (r1, r2) := by rw [if_pos rfl] at H; exact H
    clear H; have H := H1; clear H1; have H' := Aside0.mk H; clear H; go_wp2
    go_meet
    case rel => exact ⟨_, (129), (by first | rfl | (simp; done) | (simp [*]; done)), H', ⟨by first | omega | exact Nat.le_refl _⟩, ⟨by (with_reducible repeat (first | refine bN ?_ _ | refine bD ?_ | refine bA ?_ _)); exact BK110.out⟩, ⟨by repeat (first | (with_reducible first | exact HB.out | apply eA | apply eN | apply eD | refine eS ?_ GE110.out) | exact HB.out)⟩⟩
   ·replace c9 := Bool.eq_false_iff.mpr c9; subst c9; have H1 : (tallboyref29_Pack.j0 k 128 false a0_1 a0_2 a0_3 a0_4 a0_5 a0_6 a0_7) = some (r1, r2) := by rw [if_neg (show ¬ (false = true) by decide)] at H; exact H
    clear H; have H := H1; clear H1; have H' := Aside0.mk H; clear H; go_wp2
    go_meet
    case rel => exact ⟨_, (128), (by first | rfl | (simp; done) | (simp [*]; done)), H', ⟨by first | omega | exact Nat.le_refl _⟩, ⟨by (with_reducible repeat (first | refine bN ?_ _ | refine bD ?_ | refine bA ?_ _)); exact BK110.out⟩, ⟨by repeat (first | (with_reducible first | exact HB.out | apply eA | apply eN | apply eD | refine eS ?_ GE110.out) | exact HB.out)⟩⟩
  case rest =>
   clear HC4; (try clear c1); (try clear p2); (try clear c3); (try clear c9); (try clear hcz6_0 hcz6_1 hcz6_2 hcz6_3 hcz6_4 hcz6_5 hcz6_6 hcz6_7); (try clear hcz8_0 hcz8_1 hcz8_2 hcz8_3 hcz8_4 hcz8_5 hcz8_6 hcz8_7); (try clear hfz6_0 hfz6_1 hfz6_2 hfz6_3 hfz6_4 hfz6_5 hfz6_6 hfz6_7); (try clear hfz8_0 hfz8_1 hfz8_2 hfz8_3 hfz8_4 hfz8_5 hfz8_6 hfz8_7); obtain ⟨kq, x4_3, rfl, HA, HJ3, BK110, HB⟩ := hcut; cases kq with
   | zero => exact absurd HA.out (by simp [tallboyref29_Pack.j0])
   | succ kj3 =>
    have H := HA.out; clear HA; simp only [tallboyref29_Pack.j0] at H; replace H := Option.bind_eq_some_iff.mp H; obtain ⟨t112, A100, H⟩ := H; replace H : ((tallboyref29_Put.f kj3 (IntKind.u64.wrap (a0_1)) 1).bind fun t113 => (if t112.size + t113.size ≤ 9223372036854775807 then ((tallboyref29_Put.f kj3 (IntKind.u64.wrap ((a0_6.size : Int))) 2).bind fun t114 => (if (t112 ++ t113).size + t114.size ≤ 9223372036854775807 then ((tallboyref29_Put.f kj3 (IntKind.u64.wrap ((a0_5.size : Int))) 1).bind fun t115 => (if ((t112 ++ t113) ++ t114).size + t115.size ≤ 9223372036854775807 then ((tallboyref29_Put.f kj3 0 1).bind fun t116 => (if (((t112 ++ t113) ++ t114) ++ t115).size + t116.size ≤ 9223372036854775807 then ((tallboyref29_Put.f kj3 (IntKind.u64.wrap (a0_2)) 2).bind fun t117 => (if ((((t112 ++ t113) ++ t114) ++ t115) ++ t116).size + t117.size ≤ 9223372036854775807 then ((tallboyref29_Put.f kj3 (IntKind.u64.wrap (wrap64 ((wrap64 ((a0_5.size : Int) + (a0_6.size : Int))) + (a0_7.size : Int)))) 4).bind fun t118 => (if (((((t112 ++ t113) ++ t114) ++ t115) ++ t116) ++ t117).size + t118.size ≤ 9223372036854775807 then ((tallboyref29_Put.f kj3 (IntKind.u64.wrap (a0_3)) 4).bind fun t119 => (if ((((((t112 ++ t113) ++ t114) ++ t115) ++ t116) ++ t117) ++ t118).size + t119.size ≤ 9223372036854775807 then ((tallboyref29_Put.f kj3 a0_4 8).bind fun t120 => (if (((((((t112 ++ t113) ++ t114) ++ t115) ++ t116) ++ t117) ++ t118) ++ t119).size + t120.size ≤ 9223372036854775807 then (if ((((((((t112 ++ t113) ++ t114) ++ t115) ++ t116) ++ t117) ++ t118) ++ t119) ++ t120).size + a0_5.size ≤ 9223372036854775807 then (if (((((((((t112 ++ t113) ++ t114) ++ t115) ++ t116) ++ t117) ++ t118) ++ t119) ++ t120) ++ a0_5).size + a0_6.size ≤ 9223372036854775807 then (if ((((((((((t112 ++ t113) ++ t114) ++ t115) ++ t116) ++ t117) ++ t118) ++ t119) ++ t120) ++ a0_5) ++ a0_6).size + a0_7.size ≤ 9223372036854775807 then (some (((((((((((t112 ++ t113) ++ t114) ++ t115) ++ t116) ++ t117) ++ t118) ++ t119) ++ t120) ++ a0_5) ++ a0_6) ++ a0_7, 0)) else (none)) else (none)) else (none)) else (none))) else (none))) else (none))) else (none))) else (none))) else (none))) else (none))) else (none))) = some (r1, r2) := H; have A10 := Aside0.mk A100; clear A100; replace H := Option.bind_eq_some_iff.mp H; obtain ⟨t113, A110, H⟩ := H
    replace H : (if t112.size + t113.size ≤ 9223372036854775807 then ((tallboyref29_Put.f kj3 (IntKind.u64.wrap ((a0_6.size : Int))) 2).bind fun t114 => (if (t112 ++ t113).size + t114.size ≤ 9223372036854775807 then ((tallboyref29_Put.f kj3 (IntKind.u64.wrap ((a0_5.size : Int))) 1).bind fun t115 => (if ((t112 ++ t113) ++ t114).size + t115.size ≤ 9223372036854775807 then ((tallboyref29_Put.f kj3 0 1).bind fun t116 => (if (((t112 ++ t113) ++ t114) ++ t115).size + t116.size ≤ 9223372036854775807 then ((tallboyref29_Put.f kj3 (IntKind.u64.wrap (a0_2)) 2).bind fun t117 => (if ((((t112 ++ t113) ++ t114) ++ t115) ++ t116).size + t117.size ≤ 9223372036854775807 then ((tallboyref29_Put.f kj3 (IntKind.u64.wrap (wrap64 ((wrap64 ((a0_5.size : Int) + (a0_6.size : Int))) + (a0_7.size : Int)))) 4).bind fun t118 => (if (((((t112 ++ t113) ++ t114) ++ t115) ++ t116) ++ t117).size + t118.size ≤ 9223372036854775807 then ((tallboyref29_Put.f kj3 (IntKind.u64.wrap (a0_3)) 4).bind fun t119 => (if ((((((t112 ++ t113) ++ t114) ++ t115) ++ t116) ++ t117) ++ t118).size + t119.size ≤ 9223372036854775807 then ((tallboyref29_Put.f kj3 a0_4 8).bind fun t120 => (if (((((((t112 ++ t113) ++ t114) ++ t115) ++ t116) ++ t117) ++ t118) ++ t119).size + t120.size ≤ 9223372036854775807 then (if ((((((((t112 ++ t113) ++ t114) ++ t115) ++ t116) ++ t117) ++ t118) ++ t119) ++ t120).size + a0_5.size ≤ 9223372036854775807 then (if (((((((((t112 ++ t113) ++ t114) ++ t115) ++ t116) ++ t117) ++ t118) ++ t119) ++ t120) ++ a0_5).size + a0_6.size ≤ 9223372036854775807 then (if ((((((((((t112 ++ t113) ++ t114) ++ t115) ++ t116) ++ t117) ++ t118) ++ t119) ++ t120) ++ a0_5) ++ a0_6).size + a0_7.size ≤ 9223372036854775807 then (some (((((((((((t112 ++ t113) ++ t114) ++ t115) ++ t116) ++ t117) ++ t118) ++ t119) ++ t120) ++ a0_5) ++ a0_6) ++ a0_7, 0)) else (none)) else (none)) else (none)) else (none))) else (none))) else (none))) else (none))) else (none))) else (none))) else (none))) else (none)) = some (r1, r2) := H; have A11 := Aside0.mk A110; clear A110
    by_cases c12 : t112.size + t113.size ≤ 9223372036854775807
    ·rw [if_pos c12] at H; have c12b0 := eq_true c12; have c12b1 : decide (t112.size + t113.size ≤ 9223372036854775807) = true := decide_eq_true c12
     try have c12b2 : (9223372036854775807 < t112.size + t113.size) = False := eq_false (Nat.not_lt.2 c12)
     replace H := Option.bind_eq_some_iff.mp H; obtain ⟨t114, A130, H⟩ := H; replace H : (if (t112 ++ t113).size + t114.size ≤ 9223372036854775807 then ((tallboyref29_Put.f kj3 (IntKind.u64.wrap ((a0_5.size : Int))) 1).bind fun t115 => (if ((t112 ++ t113) ++ t114).size + t115.size ≤ 9223372036854775807 then ((tallboyref29_Put.f kj3 0 1).bind fun t116 => (if (((t112 ++ t113) ++ t114) ++ t115).size + t116.size ≤ 9223372036854775807 then ((tallboyref29_Put.f kj3 (IntKind.u64.wrap (a0_2)) 2).bind fun t117 => (if ((((t112 ++ t113) ++ t114) ++ t115) ++ t116).size + t117.size ≤ 9223372036854775807 then ((tallboyref29_Put.f kj3 (IntKind.u64.wrap (wrap64 ((wrap64 ((a0_5.size : Int) + (a0_6.size : Int))) + (a0_7.size : Int)))) 4).bind fun t118 => (if (((((t112 ++ t113) ++ t114) ++ t115) ++ t116) ++ t117).size + t118.size ≤ 9223372036854775807 then ((tallboyref29_Put.f kj3 (IntKind.u64.wrap (a0_3)) 4).bind fun t119 => (if ((((((t112 ++ t113) ++ t114) ++ t115) ++ t116) ++ t117) ++ t118).size + t119.size ≤ 9223372036854775807 then ((tallboyref29_Put.f kj3 a0_4 8).bind fun t120 => (if (((((((t112 ++ t113) ++ t114) ++ t115) ++ t116) ++ t117) ++ t118) ++ t119).size + t120.size ≤ 9223372036854775807 then (if ((((((((t112 ++ t113) ++ t114) ++ t115) ++ t116) ++ t117) ++ t118) ++ t119) ++ t120).size + a0_5.size ≤ 9223372036854775807 then (if (((((((((t112 ++ t113) ++ t114) ++ t115) ++ t116) ++ t117) ++ t118) ++ t119) ++ t120) ++ a0_5).size + a0_6.size ≤ 9223372036854775807 then (if ((((((((((t112 ++ t113) ++ t114) ++ t115) ++ t116) ++ t117) ++ t118) ++ t119) ++ t120) ++ a0_5) ++ a0_6).size + a0_7.size ≤ 9223372036854775807 then (some (((((((((((t112 ++ t113) ++ t114) ++ t115) ++ t116) ++ t117) ++ t118) ++ t119) ++ t120) ++ a0_5) ++ a0_6) ++ a0_7, 0)) else (none)) else (none)) else (none)) else (none))) else (none))) else (none))) else (none))) else (none))) else (none))) else (none)) = some (r1, r2) := H; have A13 := Aside0.mk A130; clear A130
     by_cases c14 : (t112 ++ t113).size + t114.size ≤ 9223372036854775807
     ·rw [if_pos c14] at H; have c14b0 := eq_true c14; have c14b1 : decide ((t112 ++ t113).size + t114.size ≤ 9223372036854775807) = true := decide_eq_true c14
      try have c14b2 : (9223372036854775807 < (t112 ++ t113).size + t114.size) = False := eq_false (Nat.not_lt.2 c14)
      try (have c14b3 := c14b2; simp only [ByteArray.size_append] at c14b3)
      replace H := Option.bind_eq_some_iff.mp H; obtain ⟨t115, A150, H⟩ := H; replace H : (if ((t112 ++ t113) ++ t114).size + t115.size ≤ 9223372036854775807 then ((tallboyref29_Put.f kj3 0 1).bind fun t116 => (if (((t112 ++ t113) ++ t114) ++ t115).size + t116.size ≤ 9223372036854775807 then ((tallboyref29_Put.f kj3 (IntKind.u64.wrap (a0_2)) 2).bind fun t117 => (if ((((t112 ++ t113) ++ t114) ++ t115) ++ t116).size + t117.size ≤ 9223372036854775807 then ((tallboyref29_Put.f kj3 (IntKind.u64.wrap (wrap64 ((wrap64 ((a0_5.size : Int) + (a0_6.size : Int))) + (a0_7.size : Int)))) 4).bind fun t118 => (if (((((t112 ++ t113) ++ t114) ++ t115) ++ t116) ++ t117).size + t118.size ≤ 9223372036854775807 then ((tallboyref29_Put.f kj3 (IntKind.u64.wrap (a0_3)) 4).bind fun t119 => (if ((((((t112 ++ t113) ++ t114) ++ t115) ++ t116) ++ t117) ++ t118).size + t119.size ≤ 9223372036854775807 then ((tallboyref29_Put.f kj3 a0_4 8).bind fun t120 => (if (((((((t112 ++ t113) ++ t114) ++ t115) ++ t116) ++ t117) ++ t118) ++ t119).size + t120.size ≤ 9223372036854775807 then (if ((((((((t112 ++ t113) ++ t114) ++ t115) ++ t116) ++ t117) ++ t118) ++ t119) ++ t120).size + a0_5.size ≤ 9223372036854775807 then (if (((((((((t112 ++ t113) ++ t114) ++ t115) ++ t116) ++ t117) ++ t118) ++ t119) ++ t120) ++ a0_5).size + a0_6.size ≤ 9223372036854775807 then (if ((((((((((t112 ++ t113) ++ t114) ++ t115) ++ t116) ++ t117) ++ t118) ++ t119) ++ t120) ++ a0_5) ++ a0_6).size + a0_7.size ≤ 9223372036854775807 then (some (((((((((((t112 ++ t113) ++ t114) ++ t115) ++ t116) ++ t117) ++ t118) ++ t119) ++ t120) ++ a0_5) ++ a0_6) ++ a0_7, 0)) else (none)) else (none)) else (none)) else (none))) else (none))) else (none))) else (none))) else (none))) else (none)) = some (r1, r2) := H; have A15 := Aside0.mk A150; clear A150
      by_cases c16 : ((t112 ++ t113) ++ t114).size + t115.size ≤ 9223372036854775807
      ·rw [if_pos c16] at H; have c16b0 := eq_true c16; have c16b1 : decide (((t112 ++ t113) ++ t114).size + t115.size ≤ 9223372036854775807) = true := decide_eq_true c16
       try have c16b2 : (9223372036854775807 < ((t112 ++ t113) ++ t114).size + t115.size) = False := eq_false (Nat.not_lt.2 c16)
       try (have c16b3 := c16b2; simp only [ByteArray.size_append] at c16b3)
       replace H := Option.bind_eq_some_iff.mp H; obtain ⟨t116, A170, H⟩ := H; replace H : (if (((t112 ++ t113) ++ t114) ++ t115).size + t116.size ≤ 9223372036854775807 then ((tallboyref29_Put.f kj3 (IntKind.u64.wrap (a0_2)) 2).bind fun t117 => (if ((((t112 ++ t113) ++ t114) ++ t115) ++ t116).size + t117.size ≤ 9223372036854775807 then ((tallboyref29_Put.f kj3 (IntKind.u64.wrap (wrap64 ((wrap64 ((a0_5.size : Int) + (a0_6.size : Int))) + (a0_7.size : Int)))) 4).bind fun t118 => (if (((((t112 ++ t113) ++ t114) ++ t115) ++ t116) ++ t117).size + t118.size ≤ 9223372036854775807 then ((tallboyref29_Put.f kj3 (IntKind.u64.wrap (a0_3)) 4).bind fun t119 => (if ((((((t112 ++ t113) ++ t114) ++ t115) ++ t116) ++ t117) ++ t118).size + t119.size ≤ 9223372036854775807 then ((tallboyref29_Put.f kj3 a0_4 8).bind fun t120 => (if (((((((t112 ++ t113) ++ t114) ++ t115) ++ t116) ++ t117) ++ t118) ++ t119).size + t120.size ≤ 9223372036854775807 then (if ((((((((t112 ++ t113) ++ t114) ++ t115) ++ t116) ++ t117) ++ t118) ++ t119) ++ t120).size + a0_5.size ≤ 9223372036854775807 then (if (((((((((t112 ++ t113) ++ t114) ++ t115) ++ t116) ++ t117) ++ t118) ++ t119) ++ t120) ++ a0_5).size + a0_6.size ≤ 9223372036854775807 then (if ((((((((((t112 ++ t113) ++ t114) ++ t115) ++ t116) ++ t117) ++ t118) ++ t119) ++ t120) ++ a0_5) ++ a0_6).size + a0_7.size ≤ 9223372036854775807 then (some (((((((((((t112 ++ t113) ++ t114) ++ t115) ++ t116) ++ t117) ++ t118) ++ t119) ++ t120) ++ a0_5) ++ a0_6) ++ a0_7, 0)) else (none)) else (none)) else (none)) else (none))) else (none))) else (none))) else (none))) else (none)) = some (r1, r2) := H; have A17 := Aside0.mk A170; clear A170
       by_cases c18 : (((t112 ++ t113) ++ t114) ++ t115).size + t116.size ≤ 9223372036854775807
       ·rw [if_pos c18] at H; have c18b0 := eq_true c18; have c18b1 : decide ((((t112 ++ t113) ++ t114) ++ t115).size + t116.size ≤ 9223372036854775807) = true := decide_eq_true c18
        try have c18b2 : (9223372036854775807 < (((t112 ++ t113) ++ t114) ++ t115).size + t116.size) = False := eq_false (Nat.not_lt.2 c18)
        try (have c18b3 := c18b2; simp only [ByteArray.size_append] at c18b3)
        replace H := Option.bind_eq_some_iff.mp H; obtain ⟨t117, A190, H⟩ := H; replace H : (if ((((t112 ++ t113) ++ t114) ++ t115) ++ t116).size + t117.size ≤ 9223372036854775807 then ((tallboyref29_Put.f kj3 (IntKind.u64.wrap (wrap64 ((wrap64 ((a0_5.size : Int) + (a0_6.size : Int))) + (a0_7.size : Int)))) 4).bind fun t118 => (if (((((t112 ++ t113) ++ t114) ++ t115) ++ t116) ++ t117).size + t118.size ≤ 9223372036854775807 then ((tallboyref29_Put.f kj3 (IntKind.u64.wrap (a0_3)) 4).bind fun t119 => (if ((((((t112 ++ t113) ++ t114) ++ t115) ++ t116) ++ t117) ++ t118).size + t119.size ≤ 9223372036854775807 then ((tallboyref29_Put.f kj3 a0_4 8).bind fun t120 => (if (((((((t112 ++ t113) ++ t114) ++ t115) ++ t116) ++ t117) ++ t118) ++ t119).size + t120.size ≤ 9223372036854775807 then (if ((((((((t112 ++ t113) ++ t114) ++ t115) ++ t116) ++ t117) ++ t118) ++ t119) ++ t120).size + a0_5.size ≤ 9223372036854775807 then (if (((((((((t112 ++ t113) ++ t114) ++ t115) ++ t116) ++ t117) ++ t118) ++ t119) ++ t120) ++ a0_5).size + a0_6.size ≤ 9223372036854775807 then (if ((((((((((t112 ++ t113) ++ t114) ++ t115) ++ t116) ++ t117) ++ t118) ++ t119) ++ t120) ++ a0_5) ++ a0_6).size + a0_7.size ≤ 9223372036854775807 then (some (((((((((((t112 ++ t113) ++ t114) ++ t115) ++ t116) ++ t117) ++ t118) ++ t119) ++ t120) ++ a0_5) ++ a0_6) ++ a0_7, 0)) else (none)) else (none)) else (none)) else (none))) else (none))) else (none))) else (none)) = some (r1, r2) := H; have A19 := Aside0.mk A190; clear A190
        by_cases c20 : ((((t112 ++ t113) ++ t114) ++ t115) ++ t116).size + t117.size ≤ 9223372036854775807
        ·rw [if_pos c20] at H; have c20b0 := eq_true c20; have c20b1 : decide (((((t112 ++ t113) ++ t114) ++ t115) ++ t116).size + t117.size ≤ 9223372036854775807) = true := decide_eq_true c20
         try have c20b2 : (9223372036854775807 < ((((t112 ++ t113) ++ t114) ++ t115) ++ t116).size + t117.size) = False := eq_false (Nat.not_lt.2 c20)
         try (have c20b3 := c20b2; simp only [ByteArray.size_append] at c20b3)
         replace H := Option.bind_eq_some_iff.mp H; obtain ⟨t118, A210, H⟩ := H; replace H : (if (((((t112 ++ t113) ++ t114) ++ t115) ++ t116) ++ t117).size + t118.size ≤ 9223372036854775807 then ((tallboyref29_Put.f kj3 (IntKind.u64.wrap (a0_3)) 4).bind fun t119 => (if ((((((t112 ++ t113) ++ t114) ++ t115) ++ t116) ++ t117) ++ t118).size + t119.size ≤ 9223372036854775807 then ((tallboyref29_Put.f kj3 a0_4 8).bind fun t120 => (if (((((((t112 ++ t113) ++ t114) ++ t115) ++ t116) ++ t117) ++ t118) ++ t119).size + t120.size ≤ 9223372036854775807 then (if ((((((((t112 ++ t113) ++ t114) ++ t115) ++ t116) ++ t117) ++ t118) ++ t119) ++ t120).size + a0_5.size ≤ 9223372036854775807 then (if (((((((((t112 ++ t113) ++ t114) ++ t115) ++ t116) ++ t117) ++ t118) ++ t119) ++ t120) ++ a0_5).size + a0_6.size ≤ 9223372036854775807 then (if ((((((((((t112 ++ t113) ++ t114) ++ t115) ++ t116) ++ t117) ++ t118) ++ t119) ++ t120) ++ a0_5) ++ a0_6).size + a0_7.size ≤ 9223372036854775807 then (some (((((((((((t112 ++ t113) ++ t114) ++ t115) ++ t116) ++ t117) ++ t118) ++ t119) ++ t120) ++ a0_5) ++ a0_6) ++ a0_7, 0)) else (none)) else (none)) else (none)) else (none))) else (none))) else (none)) = some (r1, r2) := H; have A21 := Aside0.mk A210; clear A210
         by_cases c22 : (((((t112 ++ t113) ++ t114) ++ t115) ++ t116) ++ t117).size + t118.size ≤ 9223372036854775807
         ·rw [if_pos c22] at H; have c22b0 := eq_true c22; have c22b1 : decide ((((((t112 ++ t113) ++ t114) ++ t115) ++ t116) ++ t117).size + t118.size ≤ 9223372036854775807) = true := decide_eq_true c22
          try have c22b2 : (9223372036854775807 < (((((t112 ++ t113) ++ t114) ++ t115) ++ t116) ++ t117).size + t118.size) = False := eq_false (Nat.not_lt.2 c22)
          try (have c22b3 := c22b2; simp only [ByteArray.size_append] at c22b3)
          replace H := Option.bind_eq_some_iff.mp H; obtain ⟨t119, A230, H⟩ := H; replace H : (if ((((((t112 ++ t113) ++ t114) ++ t115) ++ t116) ++ t117) ++ t118).size + t119.size ≤ 9223372036854775807 then ((tallboyref29_Put.f kj3 a0_4 8).bind fun t120 => (if (((((((t112 ++ t113) ++ t114) ++ t115) ++ t116) ++ t117) ++ t118) ++ t119).size + t120.size ≤ 9223372036854775807 then (if ((((((((t112 ++ t113) ++ t114) ++ t115) ++ t116) ++ t117) ++ t118) ++ t119) ++ t120).size + a0_5.size ≤ 9223372036854775807 then (if (((((((((t112 ++ t113) ++ t114) ++ t115) ++ t116) ++ t117) ++ t118) ++ t119) ++ t120) ++ a0_5).size + a0_6.size ≤ 9223372036854775807 then (if ((((((((((t112 ++ t113) ++ t114) ++ t115) ++ t116) ++ t117) ++ t118) ++ t119) ++ t120) ++ a0_5) ++ a0_6).size + a0_7.size ≤ 9223372036854775807 then (some (((((((((((t112 ++ t113) ++ t114) ++ t115) ++ t116) ++ t117) ++ t118) ++ t119) ++ t120) ++ a0_5) ++ a0_6) ++ a0_7, 0)) else (none)) else (none)) else (none)) else (none))) else (none)) = some (r1, r2) := H; have A23 := Aside0.mk A230; clear A230
          by_cases c24 : ((((((t112 ++ t113) ++ t114) ++ t115) ++ t116) ++ t117) ++ t118).size + t119.size ≤ 9223372036854775807
          ·rw [if_pos c24] at H; have c24b0 := eq_true c24; have c24b1 : decide (((((((t112 ++ t113) ++ t114) ++ t115) ++ t116) ++ t117) ++ t118).size + t119.size ≤ 9223372036854775807) = true := decide_eq_true c24
           try have c24b2 : (9223372036854775807 < ((((((t112 ++ t113) ++ t114) ++ t115) ++ t116) ++ t117) ++ t118).size + t119.size) = False := eq_false (Nat.not_lt.2 c24)
           try (have c24b3 := c24b2; simp only [ByteArray.size_append] at c24b3)
           replace H := Option.bind_eq_some_iff.mp H; obtain ⟨t120, A250, H⟩ := H; replace H : (if (((((((t112 ++ t113) ++ t114) ++ t115) ++ t116) ++ t117) ++ t118) ++ t119).size + t120.size ≤ 9223372036854775807 then (if ((((((((t112 ++ t113) ++ t114) ++ t115) ++ t116) ++ t117) ++ t118) ++ t119) ++ t120).size + a0_5.size ≤ 9223372036854775807 then (if (((((((((t112 ++ t113) ++ t114) ++ t115) ++ t116) ++ t117) ++ t118) ++ t119) ++ t120) ++ a0_5).size + a0_6.size ≤ 9223372036854775807 then (if ((((((((((t112 ++ t113) ++ t114) ++ t115) ++ t116) ++ t117) ++ t118) ++ t119) ++ t120) ++ a0_5) ++ a0_6).size + a0_7.size ≤ 9223372036854775807 then (some (((((((((((t112 ++ t113) ++ t114) ++ t115) ++ t116) ++ t117) ++ t118) ++ t119) ++ t120) ++ a0_5) ++ a0_6) ++ a0_7, 0)) else (none)) else (none)) else (none)) else (none)) = some (r1, r2) := H; have A25 := Aside0.mk A250; clear A250
           by_cases c26 : (((((((t112 ++ t113) ++ t114) ++ t115) ++ t116) ++ t117) ++ t118) ++ t119).size + t120.size ≤ 9223372036854775807
           ·rw [if_pos c26] at H; have c26b0 := eq_true c26; have c26b1 : decide ((((((((t112 ++ t113) ++ t114) ++ t115) ++ t116) ++ t117) ++ t118) ++ t119).size + t120.size ≤ 9223372036854775807) = true := decide_eq_true c26
            try have c26b2 : (9223372036854775807 < (((((((t112 ++ t113) ++ t114) ++ t115) ++ t116) ++ t117) ++ t118) ++ t119).size + t120.size) = False := eq_false (Nat.not_lt.2 c26)
            try (have c26b3 := c26b2; simp only [ByteArray.size_append] at c26b3)
            by_cases c27 : ((((((((t112 ++ t113) ++ t114) ++ t115) ++ t116) ++ t117) ++ t118) ++ t119) ++ t120).size + a0_5.size ≤ 9223372036854775807
            ·rw [if_pos c27] at H; have c27b0 := eq_true c27; have c27b1 : decide (((((((((t112 ++ t113) ++ t114) ++ t115) ++ t116) ++ t117) ++ t118) ++ t119) ++ t120).size + a0_5.size ≤ 9223372036854775807) = true := decide_eq_true c27
             try have c27b2 : (9223372036854775807 < ((((((((t112 ++ t113) ++ t114) ++ t115) ++ t116) ++ t117) ++ t118) ++ t119) ++ t120).size + a0_5.size) = False := eq_false (Nat.not_lt.2 c27)
             try (have c27b3 := c27b2; simp only [ByteArray.size_append] at c27b3)
             by_cases c28 : (((((((((t112 ++ t113) ++ t114) ++ t115) ++ t116) ++ t117) ++ t118) ++ t119) ++ t120) ++ a0_5).size + a0_6.size ≤ 9223372036854775807
             ·rw [if_pos c28] at H; have c28b0 := eq_true c28; have c28b1 : decide ((((((((((t112 ++ t113) ++ t114) ++ t115) ++ t116) ++ t117) ++ t118) ++ t119) ++ t120) ++ a0_5).size + a0_6.size ≤ 9223372036854775807) = true := decide_eq_true c28
              try have c28b2 : (9223372036854775807 < (((((((((t112 ++ t113) ++ t114) ++ t115) ++ t116) ++ t117) ++ t118) ++ t119) ++ t120) ++ a0_5).size + a0_6.size) = False := eq_false (Nat.not_lt.2 c28)
              try (have c28b3 := c28b2; simp only [ByteArray.size_append] at c28b3)
              by_cases c29 : ((((((((((t112 ++ t113) ++ t114) ++ t115) ++ t116) ++ t117) ++ t118) ++ t119) ++ t120) ++ a0_5) ++ a0_6).size + a0_7.size ≤ 9223372036854775807
              ·rw [if_pos c29] at H; have c29b0 := eq_true c29; have c29b1 : decide (((((((((((t112 ++ t113) ++ t114) ++ t115) ++ t116) ++ t117) ++ t118) ++ t119) ++ t120) ++ a0_5) ++ a0_6).size + a0_7.size ≤ 9223372036854775807) = true := decide_eq_true c29
               try have c29b2 : (9223372036854775807 < ((((((((((t112 ++ t113) ++ t114) ++ t115) ++ t116) ++ t117) ++ t118) ++ t119) ++ t120) ++ a0_5) ++ a0_6).size + a0_7.size) = False := eq_false (Nat.not_lt.2 c29)
               try (have c29b3 := c29b2; simp only [ByteArray.size_append] at c29b3)
               simp only [Option.some.injEq, Prod.mk.injEq] at H; obtain ⟨rfl, rfl⟩ := H
               try go_wp2
               have n0_ := Aside0.mk (bD BK110.out); have n1_ := Aside0.mk (eD HB.out); clear BK110; clear HB; have BK110 := n0_; have HB := n1_; clear n0_ n1_; refine start_ (n := 27) (S := fun w' => w'.cell? ⟨gb110, 0, none⟩ = some (.bool a0_0) ∧ w'.cell? ⟨gb110, 1, none⟩ = some (.int .u8 a0_1) ∧ w'.cell? ⟨gb110, 2, none⟩ = some (.int .u16 a0_2) ∧ w'.cell? ⟨gb110, 3, none⟩ = some (.int .u32 a0_3) ∧ w'.cell? ⟨gb110, 4, none⟩ = some (.int .u64 a0_4) ∧ w'.cell? ⟨gb110, 5, none⟩ = some (.string a0_5) ∧ w'.cell? ⟨gb110, 6, none⟩ = some (.string a0_6) ∧ w'.cell? ⟨gb110, 7, none⟩ = some (.string a0_7)) (ds := []) #[false, false, false, false, false, false, false, false, false, false, false, false, false, false, false, false, false, false, false, false, false, false, false, false, false, false, false] (by kernel_rfl) rfl rfl ⟨(blk_cell BK110.out 0).trans rfl, (blk_cell BK110.out 1).trans rfl, (blk_cell BK110.out 2).trans rfl, (blk_cell BK110.out 3).trans rfl, (blk_cell BK110.out 4).trans rfl, (blk_cell BK110.out 5).trans rfl, (blk_cell BK110.out 6).trans rfl, (blk_cell BK110.out 7).trans rfl⟩ (fun hHeld => ?_); refine with_tabW tallboyref29_Pack.tab6 tallboyref29_Pack.bits6 (fun HT_ HW_ => ?_)
               generalize wc.drew = w30 at BK110 HB hHeld ⊢; refine pure_ (i := 0) (N := some 11) (v := ?_) (a' := ?_) #[true, false, false, false, false, false, false, false, false, false, false, false, false, false, false, false, false, false, false, false, false, false, false, false, false, false, false] rfl rfl (any_of HT_.out (by kernel_rfl)) (fun _ _ _ h => h) (Or.inl ⟨by rfl, ?_⟩) ?_ ?_
               rotate_left
               ·intro w'
                go_simp
                with_reducible rfl
               rotate_left
               ·simp only [Act.put, sA, sB, sC, i64_w, i32_w]
                rfl
               refine pure_ (i := 2) (N := some 13) (v := ?_) (a' := ?_) #[true, false, true, false, false, false, false, false, false, false, false, false, false, false, false, false, false, false, false, false, false, false, false, false, false, false, false] rfl rfl (any_of HT_.out (by kernel_rfl)) (fun _ _ _ h => h) (Or.inl ⟨by rfl, ?_⟩) ?_ ?_
               rotate_left
               ·intro w'
                go_simp
                with_reducible rfl
               rotate_left
               ·simp only [Act.put, sA, sB, sC, i64_w, i32_w]
                rfl
               refine pure_ (i := 7) (N := some 18) (v := ?_) (a' := ?_) #[true, false, true, false, false, false, false, true, false, false, false, false, false, false, false, false, false, false, false, false, false, false, false, false, false, false, false] rfl rfl (any_of HT_.out (by kernel_rfl)) (fun _ _ _ h => h) (Or.inl ⟨by rfl, ?_⟩) ?_ ?_
               rotate_left
               ·intro w'
                go_simp
                with_reducible rfl
               rotate_left
               ·simp only [Act.put, sA, sB, sC, i64_w, i32_w]
                rfl
               refine pure_ (i := 13) (N := some 24) (v := ?_) (a' := ?_) #[true, false, true, false, false, false, false, true, false, false, false, false, false, true, false, false, false, false, false, false, false, false, false, false, false, false, false] rfl rfl (any_of HT_.out (by kernel_rfl)) (fun _ _ _ h => h) (Or.inl ⟨by rfl, ?_⟩) ?_ ?_
               rotate_left
               ·intro w'
                go_simp
                with_reducible rfl
               rotate_left
               ·simp only [Act.put, sA, sB, sC, i64_w, i32_w]
                rfl
               refine pure_ (i := 21) (N := some 32) (v := ?_) (a' := ?_) #[true, false, true, false, false, false, false, true, false, false, false, false, false, true, false, false, false, false, false, false, false, true, false, false, false, false, false] rfl rfl (any_of HT_.out (by kernel_rfl)) (fun _ _ _ h => h) (Or.inl ⟨by rfl, ?_⟩) ?_ ?_
               rotate_left
               ·intro w'
                go_simp
                with_reducible rfl
               rotate_left
               ·simp only [Act.put, sA, sB, sC, i64_w, i32_w]
                rfl
               refine take_ (i := 3) (N := some 14) (v := ?_) (a' := ?_) #[true, false, true, true, false, false, false, true, false, false, false, false, false, true, false, false, false, false, false, false, false, true, false, false, false, false, false] rfl rfl (take_ofW HT_.out HW_.out (by kernel_rfl)) (fun _ _ _ h => h) (Or.inl ⟨by rfl, ?_⟩) hHeld ?_ ?_
               rotate_left
               ·rintro w' ⟨s0, s1, s2, s3, s4, s5, s6, s7⟩
                go_simp
                with_reducible rfl
               rotate_left
               ·simp only [Act.put, sA, sB, sC, i64_w, i32_w]
                rfl
               refine pure_ (i := 4) (N := some 15) (v := ?_) (a' := ?_) #[true, false, true, true, true, false, false, true, false, false, false, false, false, true, false, false, false, false, false, false, false, true, false, false, false, false, false] rfl rfl (any_of HT_.out (by kernel_rfl)) (fun _ _ _ h => h) (Or.inl ⟨by rfl, ?_⟩) ?_ ?_
               rotate_left
               ·intro w'
                go_simp
                with_reducible rfl
               rotate_left
               ·simp only [Act.put, sA, sB, sC, i64_w, i32_w]
                rfl
               refine take_ (i := 8) (N := some 19) (v := ?_) (a' := ?_) #[true, false, true, true, true, false, false, true, true, false, false, false, false, true, false, false, false, false, false, false, false, true, false, false, false, false, false] rfl rfl (take_ofW HT_.out HW_.out (by kernel_rfl)) (fun _ _ _ h => h) (Or.inl ⟨by rfl, ?_⟩) hHeld ?_ ?_
               rotate_left
               ·rintro w' ⟨s0, s1, s2, s3, s4, s5, s6, s7⟩
                go_simp
                with_reducible rfl
               rotate_left
               ·simp only [Act.put, sA, sB, sC, i64_w, i32_w]
                rfl
               refine pure_ (i := 9) (N := some 20) (v := ?_) (a' := ?_) #[true, false, true, true, true, false, false, true, true, true, false, false, false, true, false, false, false, false, false, false, false, true, false, false, false, false, false] rfl rfl (any_of HT_.out (by kernel_rfl)) (fun _ _ _ h => h) (Or.inl ⟨by rfl, ?_⟩) ?_ ?_
               rotate_left
               ·intro w'
                go_simp
                with_reducible rfl
               rotate_left
               ·simp only [Act.put, sA, sB, sC, i64_w, i32_w]
                rfl
               refine pure_ (i := 10) (N := some 21) (v := ?_) (a' := ?_) #[true, false, true, true, true, false, false, true, true, true, true, false, false, true, false, false, false, false, false, false, false, true, false, false, false, false, false] rfl rfl (any_of HT_.out (by kernel_rfl)) (fun _ _ _ h => h) (Or.inl ⟨by rfl, ?_⟩) ?_ ?_
               rotate_left
               ·intro w'
                go_simp
                with_reducible rfl
               rotate_left
               ·simp only [Act.put, sA, sB, sC, i64_w, i32_w]
                rfl
               refine take_ (i := 14) (N := some 25) (v := ?_) (a' := ?_) #[true, false, true, true, true, false, false, true, true, true, true, false, false, true, true, false, false, false, false, false, false, true, false, false, false, false, false] rfl rfl (take_ofW HT_.out HW_.out (by kernel_rfl)) (fun _ _ _ h => h) (Or.inl ⟨by rfl, ?_⟩) hHeld ?_ ?_
               rotate_left
               ·rintro w' ⟨s0, s1, s2, s3, s4, s5, s6, s7⟩
                go_simp
                with_reducible rfl
               rotate_left
               ·simp only [Act.put, sA, sB, sC, i64_w, i32_w]
                rfl
               refine pure_ (i := 15) (N := some 26) (v := ?_) (a' := ?_) #[true, false, true, true, true, false, false, true, true, true, true, false, false, true, true, true, false, false, false, false, false, true, false, false, false, false, false] rfl rfl (any_of HT_.out (by kernel_rfl)) (fun _ _ _ h => h) (Or.inl ⟨by rfl, ?_⟩) ?_ ?_
               rotate_left
               ·intro w'
                go_simp
                with_reducible rfl
               rotate_left
               ·simp only [Act.put, sA, sB, sC, i64_w, i32_w]
                rfl
               refine pure_ (i := 16) (N := some 27) (v := ?_) (a' := ?_) #[true, false, true, true, true, false, false, true, true, true, true, false, false, true, true, true, true, false, false, false, false, true, false, false, false, false, false] rfl rfl (any_of HT_.out (by kernel_rfl)) (fun _ _ _ h => h) (Or.inl ⟨by rfl, ?_⟩) ?_ ?_
               rotate_left
               ·intro w'
                go_simp
                with_reducible rfl
               rotate_left
               ·simp only [Act.put, sA, sB, sC, i64_w, i32_w]
                rfl
               refine take_ (i := 22) (N := some 33) (v := ?_) (a' := ?_) #[true, false, true, true, true, false, false, true, true, true, true, false, false, true, true, true, true, false, false, false, false, true, true, false, false, false, false] rfl rfl (take_ofW HT_.out HW_.out (by kernel_rfl)) (fun _ _ _ h => h) (Or.inl ⟨by rfl, ?_⟩) hHeld ?_ ?_
               rotate_left
               ·rintro w' ⟨s0, s1, s2, s3, s4, s5, s6, s7⟩
                go_simp
                with_reducible rfl
               rotate_left
               ·simp only [Act.put, sA, sB, sC, i64_w, i32_w]
                rfl
               refine pure_ (i := 23) (N := some 34) (v := ?_) (a' := ?_) #[true, false, true, true, true, false, false, true, true, true, true, false, false, true, true, true, true, false, false, false, false, true, true, true, false, false, false] rfl rfl (any_of HT_.out (by kernel_rfl)) (fun _ _ _ h => h) (Or.inl ⟨by rfl, ?_⟩) ?_ ?_
               rotate_left
               ·intro w'
                go_simp
                with_reducible rfl
               rotate_left
               ·simp only [Act.put, sA, sB, sC, i64_w, i32_w]
                rfl
               refine one_ (i := 1) (N := some 12) #[true, true, true, true, true, false, false, true, true, true, true, false, false, true, true, true, true, false, false, false, false, true, true, true, false, false, false] rfl rfl (one_of HT_.out (by kernel_rfl)) (by decide) (fun K hK => ?_)
               refine goes_ Try.func40 (by kernel_rfl) rfl #[.int .u64 x4_3, .int .i64 1] (by rfl) rfl rfl (by (try simp only [List.map_toArray, List.map_cons, List.map_nil]); first | done | rfl | (simp only [List.length_drop, List.length_take]; rfl)) ?_
               with_reducible refine (tallboyref29_Put.calls kj3 x4_3 1 t112 _ A10.out).mono ?_
               rintro e w31 ⟨rfl, hb⟩
               refine ⟨_, rfl, ?_⟩
               have n0_ := Aside0.mk (blk_below (g := gb110) (o := .cells #[.bool a0_0, .int .u8 a0_1, .int .u16 a0_2, .int .u32 a0_3, .int .u64 a0_4, .string a0_5, .string a0_6, .string a0_7] 26 (0, 0)) (by (with_reducible repeat (first | refine bN ?_ _ | refine bD ?_ | refine bA ?_ _)); exact BK110.out) hb); have n1_ := Aside0.mk (below_step (by repeat (first | (with_reducible first | exact HB.out | apply eA | apply eN | apply eD | refine eS ?_ GE110.out) | exact HB.out)) hb); clear BK110; clear HB; have BK110 := n0_; have HB := n1_; clear n0_ n1_
               (try clear hb)
               (try clear hb2)
               (try clear hk)
               (try clear hi)
               refine hK.out _ _ ⟨(blk_cell BK110.out 0).trans rfl, (blk_cell BK110.out 1).trans rfl, (blk_cell BK110.out 2).trans rfl, (blk_cell BK110.out 3).trans rfl, (blk_cell BK110.out 4).trans rfl, (blk_cell BK110.out 5).trans rfl, (blk_cell BK110.out 6).trans rfl, (blk_cell BK110.out 7).trans rfl⟩ (fun hHeld => ?_)
               clear hK K; refine norm_ (a' := ?_) ?_ ?_
               rotate_left
               ·show Act.put _ (some 12) _ = _
                simp only [Act.put, sA, sB, sC, i64_w, i32_w]
                rfl
               refine one_ (i := 5) (N := some 16) #[true, true, true, true, true, true, false, true, true, true, true, false, false, true, true, true, true, false, false, false, false, true, true, true, false, false, false] rfl rfl (one_of HT_.out (by kernel_rfl)) (by decide) (fun K hK => ?_)
               refine goes_ Try.func40 (by kernel_rfl) rfl #[.int .u64 (IntKind.u64.wrap (a0_1)), .int .i64 1] (by rfl) rfl rfl (by (try simp only [List.map_toArray, List.map_cons, List.map_nil]); first | done | rfl | (simp only [List.length_drop, List.length_take]; rfl)) ?_
               with_reducible refine (tallboyref29_Put.calls kj3 (IntKind.u64.wrap (a0_1)) 1 t113 _ A11.out).mono ?_
               rintro e w32 ⟨rfl, hb⟩
               refine ⟨_, rfl, ?_⟩
               have n0_ := Aside0.mk (blk_below (g := gb110) (o := .cells #[.bool a0_0, .int .u8 a0_1, .int .u16 a0_2, .int .u32 a0_3, .int .u64 a0_4, .string a0_5, .string a0_6, .string a0_7] 26 (0, 0)) (by (with_reducible repeat (first | refine bN ?_ _ | refine bD ?_ | refine bA ?_ _)); exact BK110.out) hb); have n1_ := Aside0.mk (below_step (by repeat (first | (with_reducible first | exact HB.out | apply eA | apply eN | apply eD | refine eS ?_ GE110.out) | exact HB.out)) hb); clear BK110; clear HB; have BK110 := n0_; have HB := n1_; clear n0_ n1_
               (try clear hb)
               (try clear hb2)
               (try clear hk)
               (try clear hi)
               refine hK.out _ _ ⟨(blk_cell BK110.out 0).trans rfl, (blk_cell BK110.out 1).trans rfl, (blk_cell BK110.out 2).trans rfl, (blk_cell BK110.out 3).trans rfl, (blk_cell BK110.out 4).trans rfl, (blk_cell BK110.out 5).trans rfl, (blk_cell BK110.out 6).trans rfl, (blk_cell BK110.out 7).trans rfl⟩ (fun hHeld => ?_)
               clear hK K; refine norm_ (a' := ?_) ?_ ?_
               rotate_left
               ·show Act.put _ (some 16) _ = _
                simp only [Act.put, sA, sB, sC, i64_w, i32_w]
                rfl
               refine pure_ (i := 6) (N := some 17) (v := ?_) (a' := ?_) #[true, true, true, true, true, true, true, true, true, true, true, false, false, true, true, true, true, false, false, false, false, true, true, true, false, false, false] rfl rfl (any_of HT_.out (by kernel_rfl)) (fun _ _ _ h => h) (Or.inl ⟨by rfl, ?_⟩) ?_ ?_
               rotate_left
               ·intro w'
                go_simp
                with_reducible rfl
               rotate_left
               ·simp only [Act.put, sA, sB, sC, i64_w, i32_w]
                rfl
               refine one_ (i := 11) (N := some 22) #[true, true, true, true, true, true, true, true, true, true, true, true, false, true, true, true, true, false, false, false, false, true, true, true, false, false, false] rfl rfl (one_of HT_.out (by kernel_rfl)) (by decide) (fun K hK => ?_)
               refine goes_ Try.func40 (by kernel_rfl) rfl #[.int .u64 (IntKind.u64.wrap ((a0_6.size : Int))), .int .i64 2] (by rfl) rfl rfl (by (try simp only [List.map_toArray, List.map_cons, List.map_nil]); first | done | rfl | (simp only [List.length_drop, List.length_take]; rfl)) ?_
               with_reducible refine (tallboyref29_Put.calls kj3 (IntKind.u64.wrap ((a0_6.size : Int))) 2 t114 _ A13.out).mono ?_
               rintro e w33 ⟨rfl, hb⟩
               refine ⟨_, rfl, ?_⟩
               have n0_ := Aside0.mk (blk_below (g := gb110) (o := .cells #[.bool a0_0, .int .u8 a0_1, .int .u16 a0_2, .int .u32 a0_3, .int .u64 a0_4, .string a0_5, .string a0_6, .string a0_7] 26 (0, 0)) (by (with_reducible repeat (first | refine bN ?_ _ | refine bD ?_ | refine bA ?_ _)); exact BK110.out) hb); have n1_ := Aside0.mk (below_step (by repeat (first | (with_reducible first | exact HB.out | apply eA | apply eN | apply eD | refine eS ?_ GE110.out) | exact HB.out)) hb); clear BK110; clear HB; have BK110 := n0_; have HB := n1_; clear n0_ n1_
               (try clear hb)
               (try clear hb2)
               (try clear hk)
               (try clear hi)
               refine hK.out _ _ ⟨(blk_cell BK110.out 0).trans rfl, (blk_cell BK110.out 1).trans rfl, (blk_cell BK110.out 2).trans rfl, (blk_cell BK110.out 3).trans rfl, (blk_cell BK110.out 4).trans rfl, (blk_cell BK110.out 5).trans rfl, (blk_cell BK110.out 6).trans rfl, (blk_cell BK110.out 7).trans rfl⟩ (fun hHeld => ?_)
               clear hK K; refine norm_ (a' := ?_) ?_ ?_
               rotate_left
               ·show Act.put _ (some 22) _ = _
                simp only [Act.put, sA, sB, sC, i64_w, i32_w]
                rfl
               refine pure_ (i := 12) (N := some 23) (v := ?_) (a' := ?_) #[true, true, true, true, true, true, true, true, true, true, true, true, true, true, true, true, true, false, false, false, false, true, true, true, false, false, false] rfl rfl (any_of HT_.out (by kernel_rfl)) (fun _ _ _ h => h) (Or.inl ⟨by rfl, ?_⟩) ?_ ?_
               rotate_left
               ·intro w'
                go_simp
                with_reducible rfl
               rotate_left
               ·simp only [Act.put, sA, sB, sC, i64_w, i32_w]
                rfl
               refine one_ (i := 17) (N := some 28) #[true, true, true, true, true, true, true, true, true, true, true, true, true, true, true, true, true, true, false, false, false, true, true, true, false, false, false] rfl rfl (one_of HT_.out (by kernel_rfl)) (by decide) (fun K hK => ?_)
               refine goes_ Try.func40 (by kernel_rfl) rfl #[.int .u64 (IntKind.u64.wrap ((a0_5.size : Int))), .int .i64 1] (by rfl) rfl rfl (by (try simp only [List.map_toArray, List.map_cons, List.map_nil]); first | done | rfl | (simp only [List.length_drop, List.length_take]; rfl)) ?_
               with_reducible refine (tallboyref29_Put.calls kj3 (IntKind.u64.wrap ((a0_5.size : Int))) 1 t115 _ A15.out).mono ?_
               rintro e w34 ⟨rfl, hb⟩
               refine ⟨_, rfl, ?_⟩
               have n0_ := Aside0.mk (blk_below (g := gb110) (o := .cells #[.bool a0_0, .int .u8 a0_1, .int .u16 a0_2, .int .u32 a0_3, .int .u64 a0_4, .string a0_5, .string a0_6, .string a0_7] 26 (0, 0)) (by (with_reducible repeat (first | refine bN ?_ _ | refine bD ?_ | refine bA ?_ _)); exact BK110.out) hb); have n1_ := Aside0.mk (below_step (by repeat (first | (with_reducible first | exact HB.out | apply eA | apply eN | apply eD | refine eS ?_ GE110.out) | exact HB.out)) hb); clear BK110; clear HB; have BK110 := n0_; have HB := n1_; clear n0_ n1_
               (try clear hb)
               (try clear hb2)
               (try clear hk)
               (try clear hi)
               refine hK.out _ _ ⟨(blk_cell BK110.out 0).trans rfl, (blk_cell BK110.out 1).trans rfl, (blk_cell BK110.out 2).trans rfl, (blk_cell BK110.out 3).trans rfl, (blk_cell BK110.out 4).trans rfl, (blk_cell BK110.out 5).trans rfl, (blk_cell BK110.out 6).trans rfl, (blk_cell BK110.out 7).trans rfl⟩ (fun hHeld => ?_)
               clear hK K; refine norm_ (a' := ?_) ?_ ?_
               rotate_left
               ·show Act.put _ (some 28) _ = _
                simp only [Act.put, sA, sB, sC, i64_w, i32_w]
                rfl
               refine pure_ (i := 18) (N := some 29) (v := ?_) (a' := ?_) #[true, true, true, true, true, true, true, true, true, true, true, true, true, true, true, true, true, true, true, false, false, true, true, true, false, false, false] rfl rfl (any_of HT_.out (by kernel_rfl)) (fun _ _ _ h => h) (Or.inl ⟨by rfl, ?_⟩) ?_ ?_
               rotate_left
               ·intro w'
                go_simp
                with_reducible rfl
               rotate_left
               ·simp only [Act.put, sA, sB, sC, i64_w, i32_w]
                rfl
               refine one_ (i := 19) (N := some 30) #[true, true, true, true, true, true, true, true, true, true, true, true, true, true, true, true, true, true, true, true, false, true, true, true, false, false, false] rfl rfl (one_of HT_.out (by kernel_rfl)) (by decide) (fun K hK => ?_)
               refine goes_ Try.func40 (by kernel_rfl) rfl #[.int .u64 0, .int .i64 1] (by rfl) rfl rfl (by (try simp only [List.map_toArray, List.map_cons, List.map_nil]); first | done | rfl | (simp only [List.length_drop, List.length_take]; rfl)) ?_
               with_reducible refine (tallboyref29_Put.calls kj3 0 1 t116 _ A17.out).mono ?_
               rintro e w35 ⟨rfl, hb⟩
               refine ⟨_, rfl, ?_⟩
               have n0_ := Aside0.mk (blk_below (g := gb110) (o := .cells #[.bool a0_0, .int .u8 a0_1, .int .u16 a0_2, .int .u32 a0_3, .int .u64 a0_4, .string a0_5, .string a0_6, .string a0_7] 26 (0, 0)) (by (with_reducible repeat (first | refine bN ?_ _ | refine bD ?_ | refine bA ?_ _)); exact BK110.out) hb); have n1_ := Aside0.mk (below_step (by repeat (first | (with_reducible first | exact HB.out | apply eA | apply eN | apply eD | refine eS ?_ GE110.out) | exact HB.out)) hb); clear BK110; clear HB; have BK110 := n0_; have HB := n1_; clear n0_ n1_
               (try clear hb)
               (try clear hb2)
               (try clear hk)
               (try clear hi)
               refine hK.out _ _ ⟨(blk_cell BK110.out 0).trans rfl, (blk_cell BK110.out 1).trans rfl, (blk_cell BK110.out 2).trans rfl, (blk_cell BK110.out 3).trans rfl, (blk_cell BK110.out 4).trans rfl, (blk_cell BK110.out 5).trans rfl, (blk_cell BK110.out 6).trans rfl, (blk_cell BK110.out 7).trans rfl⟩ (fun hHeld => ?_)
               clear hK K; refine norm_ (a' := ?_) ?_ ?_
               rotate_left
               ·show Act.put _ (some 30) _ = _
                simp only [Act.put, sA, sB, sC, i64_w, i32_w]
                rfl
               refine pure_ (i := 20) (N := some 31) (v := ?_) (a' := ?_) #[true, true, true, true, true, true, true, true, true, true, true, true, true, true, true, true, true, true, true, true, true, true, true, true, false, false, false] rfl rfl (any_of HT_.out (by kernel_rfl)) (fun _ _ _ h => h) (Or.inl ⟨by rfl, ?_⟩) ?_ ?_
               rotate_left
               ·intro w'
                go_simp
                with_reducible rfl
               rotate_left
               ·simp only [Act.put, sA, sB, sC, i64_w, i32_w]
                rfl
               refine one_ (i := 24) (N := some 35) #[true, true, true, true, true, true, true, true, true, true, true, true, true, true, true, true, true, true, true, true, true, true, true, true, true, false, false] rfl rfl (one_of HT_.out (by kernel_rfl)) (by decide) (fun K hK => ?_)
               refine goes_ Try.func40 (by kernel_rfl) rfl #[.int .u64 (IntKind.u64.wrap (a0_2)), .int .i64 2] (by rfl) rfl rfl (by (try simp only [List.map_toArray, List.map_cons, List.map_nil]); first | done | rfl | (simp only [List.length_drop, List.length_take]; rfl)) ?_
               with_reducible refine (tallboyref29_Put.calls kj3 (IntKind.u64.wrap (a0_2)) 2 t117 _ A19.out).mono ?_
               rintro e w36 ⟨rfl, hb⟩
               refine ⟨_, rfl, ?_⟩
               have n0_ := Aside0.mk (blk_below (g := gb110) (o := .cells #[.bool a0_0, .int .u8 a0_1, .int .u16 a0_2, .int .u32 a0_3, .int .u64 a0_4, .string a0_5, .string a0_6, .string a0_7] 26 (0, 0)) (by (with_reducible repeat (first | refine bN ?_ _ | refine bD ?_ | refine bA ?_ _)); exact BK110.out) hb); have n1_ := Aside0.mk (below_step (by repeat (first | (with_reducible first | exact HB.out | apply eA | apply eN | apply eD | refine eS ?_ GE110.out) | exact HB.out)) hb); clear BK110; clear HB; have BK110 := n0_; have HB := n1_; clear n0_ n1_
               (try clear hb)
               (try clear hb2)
               (try clear hk)
               (try clear hi)
               refine hK.out _ _ ⟨(blk_cell BK110.out 0).trans rfl, (blk_cell BK110.out 1).trans rfl, (blk_cell BK110.out 2).trans rfl, (blk_cell BK110.out 3).trans rfl, (blk_cell BK110.out 4).trans rfl, (blk_cell BK110.out 5).trans rfl, (blk_cell BK110.out 6).trans rfl, (blk_cell BK110.out 7).trans rfl⟩ (fun hHeld => ?_)
               clear hK K; refine norm_ (a' := ?_) ?_ ?_
               rotate_left
               ·show Act.put _ (some 35) _ = _
                simp only [Act.put, sA, sB, sC, i64_w, i32_w]
                rfl
               refine pure_ (i := 25) (N := some 36) (v := ?_) (a' := ?_) #[true, true, true, true, true, true, true, true, true, true, true, true, true, true, true, true, true, true, true, true, true, true, true, true, true, true, false] rfl rfl (any_of HT_.out (by kernel_rfl)) (fun _ _ _ h => h) (Or.inl ⟨by rfl, ?_⟩) ?_ ?_
               rotate_left
               ·intro w'
                go_simp
                with_reducible rfl
               rotate_left
               ·simp only [Act.put, sA, sB, sC, i64_w, i32_w]
                rfl
               refine pure_ (i := 26) (N := some 5) (v := ?_) (a' := ?_) #[true, true, true, true, true, true, true, true, true, true, true, true, true, true, true, true, true, true, true, true, true, true, true, true, true, true, true] rfl rfl (any_of HT_.out (by kernel_rfl)) (fun _ _ _ h => h) (Or.inl ⟨by rfl, ?_⟩) ?_ ?_
               rotate_left
               ·intro w'
                go_simp
                with_reducible rfl
               rotate_left
               ·simp only [Act.put, sA, sB, sC, i64_w, i32_w]
                rfl
               refine done_ (done_of HT_.out (by kernel_rfl)) ?_
               try go_wp2
               have n0_ := Aside0.mk (bD BK110.out); have n1_ := Aside0.mk (eD HB.out); clear BK110; clear HB; have BK110 := n0_; have HB := n1_; clear n0_ n1_; refine start_ (n := 25) (S := fun w' => w'.cell? ⟨gb110, 0, none⟩ = some (.bool a0_0) ∧ w'.cell? ⟨gb110, 1, none⟩ = some (.int .u8 a0_1) ∧ w'.cell? ⟨gb110, 2, none⟩ = some (.int .u16 a0_2) ∧ w'.cell? ⟨gb110, 3, none⟩ = some (.int .u32 a0_3) ∧ w'.cell? ⟨gb110, 4, none⟩ = some (.int .u64 a0_4) ∧ w'.cell? ⟨gb110, 5, none⟩ = some (.string a0_5) ∧ w'.cell? ⟨gb110, 6, none⟩ = some (.string a0_6) ∧ w'.cell? ⟨gb110, 7, none⟩ = some (.string a0_7)) (ds := []) #[false, false, false, false, false, false, false, false, false, false, false, false, false, false, false, false, false, false, false, false, false, false, false, false, false] (by kernel_rfl) rfl rfl ⟨(blk_cell BK110.out 0).trans rfl, (blk_cell BK110.out 1).trans rfl, (blk_cell BK110.out 2).trans rfl, (blk_cell BK110.out 3).trans rfl, (blk_cell BK110.out 4).trans rfl, (blk_cell BK110.out 5).trans rfl, (blk_cell BK110.out 6).trans rfl, (blk_cell BK110.out 7).trans rfl⟩ (fun hHeld => ?_); refine with_tabW tallboyref29_Pack.tab7 tallboyref29_Pack.bits7 (fun HT_ HW_ => ?_)
               generalize w36.drew = w37 at BK110 HB hHeld ⊢; refine pure_ (i := 0) (N := some 37) (v := ?_) (a' := ?_) #[true, false, false, false, false, false, false, false, false, false, false, false, false, false, false, false, false, false, false, false, false, false, false, false, false] rfl rfl (any_of HT_.out (by kernel_rfl)) (fun _ _ _ h => h) (Or.inl ⟨by rfl, ?_⟩) ?_ ?_
               rotate_left
               ·intro w'
                go_simp
                with_reducible rfl
               rotate_left
               ·simp only [Act.put, sA, sB, sC, i64_w, i32_w]
                rfl
               refine pure_ (i := 1) (N := some 38) (v := ?_) (a' := ?_) #[true, true, false, false, false, false, false, false, false, false, false, false, false, false, false, false, false, false, false, false, false, false, false, false, false] rfl rfl (any_of HT_.out (by kernel_rfl)) (fun _ _ _ h => h) (Or.inl ⟨by rfl, ?_⟩) ?_ ?_
               rotate_left
               ·intro w'
                go_simp
                with_reducible rfl
               rotate_left
               ·simp only [Act.put, sA, sB, sC, i64_w, i32_w]
                rfl
               refine pure_ (i := 4) (N := some 41) (v := ?_) (a' := ?_) #[true, true, false, false, true, false, false, false, false, false, false, false, false, false, false, false, false, false, false, false, false, false, false, false, false] rfl rfl (any_of HT_.out (by kernel_rfl)) (fun _ _ _ h => h) (Or.inl ⟨by rfl, ?_⟩) ?_ ?_
               rotate_left
               ·intro w'
                go_simp
                with_reducible rfl
               rotate_left
               ·simp only [Act.put, sA, sB, sC, i64_w, i32_w]
                rfl
               refine pure_ (i := 8) (N := some 45) (v := ?_) (a' := ?_) #[true, true, false, false, true, false, false, false, true, false, false, false, false, false, false, false, false, false, false, false, false, false, false, false, false] rfl rfl (any_of HT_.out (by kernel_rfl)) (fun _ _ _ h => h) (Or.inl ⟨by rfl, ?_⟩) ?_ ?_
               rotate_left
               ·intro w'
                go_simp
                with_reducible rfl
               rotate_left
               ·simp only [Act.put, sA, sB, sC, i64_w, i32_w]
                rfl
               refine pure_ (i := 15) (N := some 52) (v := ?_) (a' := ?_) #[true, true, false, false, true, false, false, false, true, false, false, false, false, false, false, true, false, false, false, false, false, false, false, false, false] rfl rfl (any_of HT_.out (by kernel_rfl)) (fun _ _ _ h => h) (Or.inl ⟨by rfl, ?_⟩) ?_ ?_
               rotate_left
               ·intro w'
                go_simp
                with_reducible rfl
               rotate_left
               ·simp only [Act.put, sA, sB, sC, i64_w, i32_w]
                rfl
               refine pure_ (i := 20) (N := some 57) (v := ?_) (a' := ?_) #[true, true, false, false, true, false, false, false, true, false, false, false, false, false, false, true, false, false, false, false, true, false, false, false, false] rfl rfl (any_of HT_.out (by kernel_rfl)) (fun _ _ _ h => h) (Or.inl ⟨by rfl, ?_⟩) ?_ ?_
               rotate_left
               ·intro w'
                go_simp
                with_reducible rfl
               rotate_left
               ·simp only [Act.put, sA, sB, sC, i64_w, i32_w]
                rfl
               refine take_ (i := 2) (N := some 39) (v := ?_) (a' := ?_) #[true, true, true, false, true, false, false, false, true, false, false, false, false, false, false, true, false, false, false, false, true, false, false, false, false] rfl rfl (take_ofW HT_.out HW_.out (by kernel_rfl)) (fun _ _ _ h => h) (Or.inl ⟨by rfl, ?_⟩) hHeld ?_ ?_
               rotate_left
               ·rintro w' ⟨s0, s1, s2, s3, s4, s5, s6, s7⟩
                go_simp
                with_reducible rfl
               rotate_left
               ·simp only [Act.put, sA, sB, sC, i64_w, i32_w]
                rfl
               refine pure_ (i := 3) (N := some 40) (v := ?_) (a' := ?_) #[true, true, true, true, true, false, false, false, true, false, false, false, false, false, false, true, false, false, false, false, true, false, false, false, false] rfl rfl (any_of HT_.out (by kernel_rfl)) (fun _ _ _ h => h) (Or.inl ⟨by rfl, ?_⟩) ?_ ?_
               rotate_left
               ·intro w'
                go_simp
                with_reducible rfl
               rotate_left
               ·simp only [Act.put, sA, sB, sC, i64_w, i32_w]
                rfl
               refine take_ (i := 5) (N := some 42) (v := ?_) (a' := ?_) #[true, true, true, true, true, true, false, false, true, false, false, false, false, false, false, true, false, false, false, false, true, false, false, false, false] rfl rfl (take_ofW HT_.out HW_.out (by kernel_rfl)) (fun _ _ _ h => h) (Or.inl ⟨by rfl, ?_⟩) hHeld ?_ ?_
               rotate_left
               ·rintro w' ⟨s0, s1, s2, s3, s4, s5, s6, s7⟩
                go_simp
                with_reducible rfl
               rotate_left
               ·simp only [Act.put, sA, sB, sC, i64_w, i32_w]
                rfl
               refine pure_ (i := 6) (N := some 43) (v := ?_) (a' := ?_) #[true, true, true, true, true, true, true, false, true, false, false, false, false, false, false, true, false, false, false, false, true, false, false, false, false] rfl rfl (any_of HT_.out (by kernel_rfl)) (fun _ _ _ h => h) (Or.inl ⟨by rfl, ?_⟩) ?_ ?_
               rotate_left
               ·intro w'
                go_simp
                with_reducible rfl
               rotate_left
               ·simp only [Act.put, sA, sB, sC, i64_w, i32_w]
                rfl
               refine pure_ (i := 7) (N := some 44) (v := ?_) (a' := ?_) #[true, true, true, true, true, true, true, true, true, false, false, false, false, false, false, true, false, false, false, false, true, false, false, false, false] rfl rfl (any_of HT_.out (by kernel_rfl)) (fun _ _ _ h => h) (Or.inl ⟨by rfl, ?_⟩) ?_ ?_
               rotate_left
               ·intro w'
                go_simp
                with_reducible rfl
               rotate_left
               ·simp only [Act.put, sA, sB, sC, i64_w, i32_w]
                rfl
               refine take_ (i := 9) (N := some 46) (v := ?_) (a' := ?_) #[true, true, true, true, true, true, true, true, true, true, false, false, false, false, false, true, false, false, false, false, true, false, false, false, false] rfl rfl (take_ofW HT_.out HW_.out (by kernel_rfl)) (fun _ _ _ h => h) (Or.inl ⟨by rfl, ?_⟩) hHeld ?_ ?_
               rotate_left
               ·rintro w' ⟨s0, s1, s2, s3, s4, s5, s6, s7⟩
                go_simp
                with_reducible rfl
               rotate_left
               ·simp only [Act.put, sA, sB, sC, i64_w, i32_w]
                rfl
               refine pure_ (i := 10) (N := some 47) (v := ?_) (a' := ?_) #[true, true, true, true, true, true, true, true, true, true, true, false, false, false, false, true, false, false, false, false, true, false, false, false, false] rfl rfl (any_of HT_.out (by kernel_rfl)) (fun _ _ _ h => h) (Or.inl ⟨by rfl, ?_⟩) ?_ ?_
               rotate_left
               ·intro w'
                go_simp
                with_reducible rfl
               rotate_left
               ·simp only [Act.put, sA, sB, sC, i64_w, i32_w]
                rfl
               refine pure_ (i := 11) (N := some 48) (v := ?_) (a' := ?_) #[true, true, true, true, true, true, true, true, true, true, true, true, false, false, false, true, false, false, false, false, true, false, false, false, false] rfl rfl (any_of HT_.out (by kernel_rfl)) (fun _ _ _ h => h) (Or.inl ⟨by rfl, ?_⟩) ?_ ?_
               rotate_left
               ·intro w'
                go_simp
                with_reducible rfl
               rotate_left
               ·simp only [Act.put, sA, sB, sC, i64_w, i32_w]
                rfl
               refine pure_ (i := 12) (N := some 49) (v := ?_) (a' := ?_) #[true, true, true, true, true, true, true, true, true, true, true, true, true, false, false, true, false, false, false, false, true, false, false, false, false] rfl rfl (any_of HT_.out (by kernel_rfl)) (fun _ _ _ h => h) (Or.inl ⟨by rfl, ?_⟩) ?_ ?_
               rotate_left
               ·intro w'
                go_simp
                with_reducible rfl
               rotate_left
               ·simp only [Act.put, sA, sB, sC, i64_w, i32_w]
                rfl
               refine take_ (i := 16) (N := some 53) (v := ?_) (a' := ?_) #[true, true, true, true, true, true, true, true, true, true, true, true, true, false, false, true, true, false, false, false, true, false, false, false, false] rfl rfl (take_ofW HT_.out HW_.out (by kernel_rfl)) (fun _ _ _ h => h) (Or.inl ⟨by rfl, ?_⟩) hHeld ?_ ?_
               rotate_left
               ·rintro w' ⟨s0, s1, s2, s3, s4, s5, s6, s7⟩
                go_simp
                with_reducible rfl
               rotate_left
               ·simp only [Act.put, sA, sB, sC, i64_w, i32_w]
                rfl
               refine pure_ (i := 17) (N := some 54) (v := ?_) (a' := ?_) #[true, true, true, true, true, true, true, true, true, true, true, true, true, false, false, true, true, true, false, false, true, false, false, false, false] rfl rfl (any_of HT_.out (by kernel_rfl)) (fun _ _ _ h => h) (Or.inl ⟨by rfl, ?_⟩) ?_ ?_
               rotate_left
               ·intro w'
                go_simp
                with_reducible rfl
               rotate_left
               ·simp only [Act.put, sA, sB, sC, i64_w, i32_w]
                rfl
               refine take_ (i := 21) (N := some 58) (v := ?_) (a' := ?_) #[true, true, true, true, true, true, true, true, true, true, true, true, true, false, false, true, true, true, false, false, true, true, false, false, false] rfl rfl (take_ofW HT_.out HW_.out (by kernel_rfl)) (fun _ _ _ h => h) (Or.inl ⟨by rfl, ?_⟩) hHeld ?_ ?_
               rotate_left
               ·rintro w' ⟨s0, s1, s2, s3, s4, s5, s6, s7⟩
                go_simp
                with_reducible rfl
               rotate_left
               ·simp only [Act.put, sA, sB, sC, i64_w, i32_w]
                rfl
               refine one_ (i := 13) (N := some 50) #[true, true, true, true, true, true, true, true, true, true, true, true, true, true, false, true, true, true, false, false, true, true, false, false, false] rfl rfl (one_of HT_.out (by kernel_rfl)) (by decide) (fun K hK => ?_)
               refine goes_ Try.func40 (by kernel_rfl) rfl #[.int .u64 (IntKind.u64.wrap (wrap64 ((wrap64 ((a0_5.size : Int) + (a0_6.size : Int))) + (a0_7.size : Int)))), .int .i64 4] (by rfl) rfl rfl (by (try simp only [List.map_toArray, List.map_cons, List.map_nil]); first | done | rfl | (simp only [List.length_drop, List.length_take]; rfl)) ?_
               with_reducible refine (tallboyref29_Put.calls kj3 (IntKind.u64.wrap (wrap64 ((wrap64 ((a0_5.size : Int) + (a0_6.size : Int))) + (a0_7.size : Int)))) 4 t118 _ A21.out).mono ?_
               rintro e w38 ⟨rfl, hb⟩
               refine ⟨_, rfl, ?_⟩
               have n0_ := Aside0.mk (blk_below (g := gb110) (o := .cells #[.bool a0_0, .int .u8 a0_1, .int .u16 a0_2, .int .u32 a0_3, .int .u64 a0_4, .string a0_5, .string a0_6, .string a0_7] 26 (0, 0)) (by (with_reducible repeat (first | refine bN ?_ _ | refine bD ?_ | refine bA ?_ _)); exact BK110.out) hb); have n1_ := Aside0.mk (below_step (by repeat (first | (with_reducible first | exact HB.out | apply eA | apply eN | apply eD | refine eS ?_ GE110.out) | exact HB.out)) hb); clear BK110; clear HB; have BK110 := n0_; have HB := n1_; clear n0_ n1_
               (try clear hb)
               (try clear hb2)
               (try clear hk)
               (try clear hi)
               refine hK.out _ _ ⟨(blk_cell BK110.out 0).trans rfl, (blk_cell BK110.out 1).trans rfl, (blk_cell BK110.out 2).trans rfl, (blk_cell BK110.out 3).trans rfl, (blk_cell BK110.out 4).trans rfl, (blk_cell BK110.out 5).trans rfl, (blk_cell BK110.out 6).trans rfl, (blk_cell BK110.out 7).trans rfl⟩ (fun hHeld => ?_)
               clear hK K; refine norm_ (a' := ?_) ?_ ?_
               rotate_left
               ·show Act.put _ (some 50) _ = _
                simp only [Act.put, sA, sB, sC, i64_w, i32_w]
                rfl
               refine pure_ (i := 14) (N := some 51) (v := ?_) (a' := ?_) #[true, true, true, true, true, true, true, true, true, true, true, true, true, true, true, true, true, true, false, false, true, true, false, false, false] rfl rfl (any_of HT_.out (by kernel_rfl)) (fun _ _ _ h => h) (Or.inl ⟨by rfl, ?_⟩) ?_ ?_
               rotate_left
               ·intro w'
                go_simp
                with_reducible rfl
               rotate_left
               ·simp only [Act.put, sA, sB, sC, i64_w, i32_w]
                rfl
               refine one_ (i := 18) (N := some 55) #[true, true, true, true, true, true, true, true, true, true, true, true, true, true, true, true, true, true, true, false, true, true, false, false, false] rfl rfl (one_of HT_.out (by kernel_rfl)) (by decide) (fun K hK => ?_)
               refine goes_ Try.func40 (by kernel_rfl) rfl #[.int .u64 (IntKind.u64.wrap (a0_3)), .int .i64 4] (by rfl) rfl rfl (by (try simp only [List.map_toArray, List.map_cons, List.map_nil]); first | done | rfl | (simp only [List.length_drop, List.length_take]; rfl)) ?_
               with_reducible refine (tallboyref29_Put.calls kj3 (IntKind.u64.wrap (a0_3)) 4 t119 _ A23.out).mono ?_
               rintro e w39 ⟨rfl, hb⟩
               refine ⟨_, rfl, ?_⟩
               have n0_ := Aside0.mk (blk_below (g := gb110) (o := .cells #[.bool a0_0, .int .u8 a0_1, .int .u16 a0_2, .int .u32 a0_3, .int .u64 a0_4, .string a0_5, .string a0_6, .string a0_7] 26 (0, 0)) (by (with_reducible repeat (first | refine bN ?_ _ | refine bD ?_ | refine bA ?_ _)); exact BK110.out) hb); have n1_ := Aside0.mk (below_step (by repeat (first | (with_reducible first | exact HB.out | apply eA | apply eN | apply eD | refine eS ?_ GE110.out) | exact HB.out)) hb); clear BK110; clear HB; have BK110 := n0_; have HB := n1_; clear n0_ n1_
               (try clear hb)
               (try clear hb2)
               (try clear hk)
               (try clear hi)
               refine hK.out _ _ ⟨(blk_cell BK110.out 0).trans rfl, (blk_cell BK110.out 1).trans rfl, (blk_cell BK110.out 2).trans rfl, (blk_cell BK110.out 3).trans rfl, (blk_cell BK110.out 4).trans rfl, (blk_cell BK110.out 5).trans rfl, (blk_cell BK110.out 6).trans rfl, (blk_cell BK110.out 7).trans rfl⟩ (fun hHeld => ?_)
               clear hK K; refine norm_ (a' := ?_) ?_ ?_
               rotate_left
               ·show Act.put _ (some 55) _ = _
                simp only [Act.put, sA, sB, sC, i64_w, i32_w]
                rfl
               refine pure_ (i := 19) (N := some 56) (v := ?_) (a' := ?_) #[true, true, true, true, true, true, true, true, true, true, true, true, true, true, true, true, true, true, true, true, true, true, false, false, false] rfl rfl (any_of HT_.out (by kernel_rfl)) (fun _ _ _ h => h) (Or.inl ⟨by rfl, ?_⟩) ?_ ?_
               rotate_left
               ·intro w'
                go_simp
                with_reducible rfl
               rotate_left
               ·simp only [Act.put, sA, sB, sC, i64_w, i32_w]
                rfl
               refine one_ (i := 22) (N := some 59) #[true, true, true, true, true, true, true, true, true, true, true, true, true, true, true, true, true, true, true, true, true, true, true, false, false] rfl rfl (one_of HT_.out (by kernel_rfl)) (by decide) (fun K hK => ?_)
               refine goes_ Try.func40 (by kernel_rfl) rfl #[.int .u64 a0_4, .int .i64 8] (by rfl) rfl rfl (by (try simp only [List.map_toArray, List.map_cons, List.map_nil]); first | done | rfl | (simp only [List.length_drop, List.length_take]; rfl)) ?_
               with_reducible refine (tallboyref29_Put.calls kj3 a0_4 8 t120 _ A25.out).mono ?_
               rintro e w40 ⟨rfl, hb⟩
               refine ⟨_, rfl, ?_⟩
               have n0_ := Aside0.mk (blk_below (g := gb110) (o := .cells #[.bool a0_0, .int .u8 a0_1, .int .u16 a0_2, .int .u32 a0_3, .int .u64 a0_4, .string a0_5, .string a0_6, .string a0_7] 26 (0, 0)) (by (with_reducible repeat (first | refine bN ?_ _ | refine bD ?_ | refine bA ?_ _)); exact BK110.out) hb); have n1_ := Aside0.mk (below_step (by repeat (first | (with_reducible first | exact HB.out | apply eA | apply eN | apply eD | refine eS ?_ GE110.out) | exact HB.out)) hb); clear BK110; clear HB; have BK110 := n0_; have HB := n1_; clear n0_ n1_
               (try clear hb)
               (try clear hb2)
               (try clear hk)
               (try clear hi)
               refine hK.out _ _ ⟨(blk_cell BK110.out 0).trans rfl, (blk_cell BK110.out 1).trans rfl, (blk_cell BK110.out 2).trans rfl, (blk_cell BK110.out 3).trans rfl, (blk_cell BK110.out 4).trans rfl, (blk_cell BK110.out 5).trans rfl, (blk_cell BK110.out 6).trans rfl, (blk_cell BK110.out 7).trans rfl⟩ (fun hHeld => ?_)
               clear hK K; refine norm_ (a' := ?_) ?_ ?_
               rotate_left
               ·show Act.put _ (some 59) _ = _
                simp only [Act.put, sA, sB, sC, i64_w, i32_w]
                rfl
               refine pure_ (i := 23) (N := some 60) (v := ?_) (a' := ?_) #[true, true, true, true, true, true, true, true, true, true, true, true, true, true, true, true, true, true, true, true, true, true, true, true, false] rfl rfl (any_of HT_.out (by kernel_rfl)) (fun _ _ _ h => h) (Or.inl ⟨by rfl, ?_⟩) ?_ ?_
               rotate_left
               ·intro w'
                go_simp
                with_reducible rfl
               rotate_left
               ·simp only [Act.put, sA, sB, sC, i64_w, i32_w]
                rfl
               refine pure_ (i := 24) (N := some 5) (v := ?_) (a' := ?_) #[true, true, true, true, true, true, true, true, true, true, true, true, true, true, true, true, true, true, true, true, true, true, true, true, true] rfl rfl (any_of HT_.out (by kernel_rfl)) (fun _ _ _ h => h) (Or.inl ⟨by rfl, ?_⟩) ?_ ?_
               rotate_left
               ·intro w'
                go_simp
                with_reducible rfl
               rotate_left
               ·simp only [Act.put, sA, sB, sC, i64_w, i32_w]
                rfl
               refine done_ (done_of HT_.out (by kernel_rfl)) ?_
               obtain ⟨hcz41_0, hcz41_1, hcz41_2, hcz41_3, hcz41_4, hcz41_5, hcz41_6, hcz41_7, hfz41_0, hfz41_1, hfz41_2, hfz41_3, hfz41_4, hfz41_5, hfz41_6, hfz41_7⟩ := c8 BK110.out
               try go_wp2
               go_ret2
               exact ⟨by first | rfl | (simp [errW_none, errW_some] <;> rfl) | (simp [*, errW_none, errW_some] <;> rfl), by repeat (first | (with_reducible first | exact HB.out | apply eA | apply eN | apply eD | refine eS ?_ GE110.out) | exact HB.out)⟩
              ·rw [if_neg c29] at H; exact absurd H (by simp)
             ·rw [if_neg c28] at H; exact absurd H (by simp)
            ·rw [if_neg c27] at H; exact absurd H (by simp)
           ·rw [if_neg c26] at H; exact absurd H (by simp)
          ·rw [if_neg c24] at H; exact absurd H (by simp)
         ·rw [if_neg c22] at H; exact absurd H (by simp)
        ·rw [if_neg c20] at H; exact absurd H (by simp)
       ·rw [if_neg c18] at H; exact absurd H (by simp)
      ·rw [if_neg c16] at H; exact absurd H (by simp)
     ·rw [if_neg c14] at H; exact absurd H (by simp)
    ·rw [if_neg c12] at H; exact absurd H (by simp)
 ·replace c3 := Bool.eq_false_iff.mpr c3; subst c3; have H1 : (some ((⟨#[]⟩ : ByteArray), 7)) = some (r1, r2) := by rw [if_neg (show ¬ (false = true) by decide)] at H; exact H
  clear H; have H := H1; clear H1; simp only [Option.some.injEq, Prod.mk.injEq] at H; obtain ⟨rfl, rfl⟩ := H; go_enter Try.func14, Try.ntmps14
  go_wp2_with (first | ((with_reducible refine gate_dst (N := 1) rfl ?_); refine box_event ?hg (N := 1) ?hd (cs := #[.bool a0_0, .int .u8 a0_1, .int .u16 a0_2, .int .u32 a0_3, .int .u64 a0_4, .string a0_5, .string a0_6, .string a0_7]) (t := 26) ?hr ?_; (case hd => rfl); (case hg => rfl); (case hr => first | (go_simp; done) | (go_simp; rfl)); intro gb110 hg w42 hbox hb; have n0_ := Aside0.mk (below_step (by repeat (first | (with_reducible first | exact HB.out | apply eA | apply eN | apply eD) | exact HB.out)) hb); have n1_ := Aside0.mk (hbox); have n2_ := Aside0.mk ((by rw [hg]; exact (below_size (by repeat (first | (with_reducible first | exact HB.out | apply eA | apply eN | apply eD) | exact HB.out))) : w.heap.size ≤ gb110)); have n3_ := n2_; clear HB; have HB := n0_; have BK110 := n1_; have GW110 := n2_; have GE110 := n3_; clear n0_ n1_ n2_ n3_; clear hb hbox hg; obtain ⟨hcz43_0, hcz43_1, hcz43_2, hcz43_3, hcz43_4, hcz43_5, hcz43_6, hcz43_7, hfz43_0, hfz43_1, hfz43_2, hfz43_3, hfz43_4, hfz43_5, hfz43_6, hfz43_7⟩ := c8 BK110.out) | ((with_reducible refine gate_callee (f := 39) rfl ?_); refine goesL_ (some 7) rfl rfl Try.func39 (by kernel_rfl) rfl #[.agg #[.bool a0_0, .int .u8 a0_1, .int .u16 a0_2, .int .u32 a0_3, .int .u64 a0_4, .string a0_5, .string a0_6, .string a0_7]] rfl (by (try simp only [List.map_toArray, List.map_cons, List.map_nil]); first | done | rfl | (simp only [List.length_drop, List.length_take]; rfl)) ?_; (with_reducible refine (tallboyref29_may.calls a0_0 a0_1 a0_2 a0_3 a0_4 a0_5 a0_6 a0_7 false _ A2.out).mono ?_); rintro e w44 ⟨rfl, hb⟩; refine ⟨_, rfl, ?_⟩; have n0_ := Aside0.mk (blk_below (g := gb110) (o := .cells #[.bool a0_0, .int .u8 a0_1, .int .u16 a0_2, .int .u32 a0_3, .int .u64 a0_4, .string a0_5, .string a0_6, .string a0_7] 26 (0, 0)) (by (with_reducible repeat (first | refine bN ?_ _ | refine bD ?_ | refine bA ?_ _)); exact BK110.out) hb); have n1_ := Aside0.mk (below_step (by repeat (first | (with_reducible first | exact HB.out | apply eA | apply eN | apply eD | refine eS ?_ GE110.out) | exact HB.out)) hb); clear BK110; clear HB; have BK110 := n0_; have HB := n1_; clear n0_ n1_; (try clear hb); (try clear hb2); (try clear hk); (try clear hi)))
  go_ret2
  exact ⟨by first | rfl | (simp [errW_none, errW_some] <;> rfl) | (simp [*, errW_none, errW_some] <;> rfl), by repeat (first | (with_reducible first | exact HB.out | apply eA | apply eN | apply eD | refine eS ?_ GE110.out) | exact HB.out)⟩

end Go.Proofs.Ytdepkgikdmlgiaa.P
