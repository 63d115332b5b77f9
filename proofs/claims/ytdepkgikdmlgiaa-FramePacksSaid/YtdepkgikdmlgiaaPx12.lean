/- Lean functions for the Go functions that the laws of this seat use, and the proofs that the Go code computes them; conditions: the readings that each theorem names. Written by a program. -/
import Derived.Test.YtdepkgikdmlgiaaPx0
import Derived.Test.YtdepkgikdmlgiaaPx1
import Derived.Test.YtdepkgikdmlgiaaPx3
import Derived.Test.YtdepkgikdmlgiaaPx4
import Derived.Test.YtdepkgikdmlgiaaPx5
import Derived.Test.YtdepkgikdmlgiaaPx6
import Derived.Test.YtdepkgikdmlgiaaPx7
import Derived.Test.YtdepkgikdmlgiaaPx8
import Derived.Test.YtdepkgikdmlgiaaPx9
import Derived.Test.YtdepkgikdmlgiaaPx10
import Derived.Test.YtdepkgikdmlgiaaPx11
import Derived.Test.YtdepkgikdmlgiaaShort
namespace Go.Proofs.Ytdepkgikdmlgiaa.P
open Go.RowKit Go.Proofs.YtdepkgikdmlgiaaW.PrintWords Go.Proofs.YtdepkgikdmlgiaaW.PrintLast Go.Proofs.YtdepkgikdmlgiaaW.PrintMore
set_option linter.unusedVariables false
set_option linter.unusedSimpArgs false

attribute [local go_sem high] eqA26
/-! ### tallboylaw29_FramePacks: function 3 -/
def tallboylaw29_FramePacks.j0 : Nat → ByteArray → Bool → Bool → Int → Int → Int → Int → ByteArray → ByteArray → ByteArray → Option (Bool)
 | 0, _, _, _, _, _, _, _, _, _, _ => none
 | k + 1, x1, x21, x139000, x139001, x139002, x139003, x139004, x139005, x139006, x139007 => if x21 = true then (some true) else ((tallboylaw29_To.f x139000 x139001 x139002 x139003 x139004 x139005 x139006 x139007).bind fun bt140 => ((frame_Pack.f bt140.1 bt140.2.1 bt140.2.2.1 bt140.2.2.2.1 bt140.2.2.2.2.1 bt140.2.2.2.2.2.1 bt140.2.2.2.2.2.2.1 bt140.2.2.2.2.2.2.2).bind fun bt148 => ((tallboyref29_Pack.f k x139000 x139001 x139002 x139003 x139004 x139005 x139006 x139007).bind fun bt150 => ((frame_Unpack.f k x1).bind fun bt152 => ((tallboyref29_Unpack.f k x1).bind fun bt163 => (if bt148.1.toList = bt150.1.toList then (if bt148.2 = bt150.2 then ((tallboylaw29_From.f bt152.1 bt152.2.1 bt152.2.2.1 bt152.2.2.2.1 bt152.2.2.2.2.1 bt152.2.2.2.2.2.1 bt152.2.2.2.2.2.2.1 bt152.2.2.2.2.2.2.2.1).bind fun bt174 => (if (bt174.1 == bt163.1 && (bt174.2.1 == bt163.2.1 && (bt174.2.2.1 == bt163.2.2.1 && (bt174.2.2.2.1 == bt163.2.2.2.1 && (bt174.2.2.2.2.1 == bt163.2.2.2.2.1 && (bt174.2.2.2.2.2.1.toList == bt163.2.2.2.2.2.1.toList && (bt174.2.2.2.2.2.2.1.toList == bt163.2.2.2.2.2.2.1.toList && (bt174.2.2.2.2.2.2.2.toList == bt163.2.2.2.2.2.2.2.1.toList)))))))) = true then (if bt152.2.2.2.2.2.2.2.2.1 = bt163.2.2.2.2.2.2.2.2.1 then (some (bt152.2.2.2.2.2.2.2.2.2 == bt163.2.2.2.2.2.2.2.2.2)) else (none)) else (none))) else (none)) else (none)))))))
def tallboylaw29_FramePacks.f (k : Nat) (a0_0 : Bool) (a0_1 : Int) (a0_2 : Int) (a0_3 : Int) (a0_4 : Int) (a0_5 : ByteArray) (a0_6 : ByteArray) (a0_7 : ByteArray) (a1 : ByteArray) : Option (Bool) := (tallboylaw29_Great.f a0_0 a0_1 a0_2 a0_3 a0_4 a0_5 a0_6 a0_7).bind fun t139 => (if t139 = true then (tallboylaw29_FramePacks.j0 k a1 true a0_0 a0_1 a0_2 a0_3 a0_4 a0_5 a0_6 a0_7) else (tallboylaw29_FramePacks.j0 k a1 (decide ((a1.size : Int) > 40000)) a0_0 a0_1 a0_2 a0_3 a0_4 a0_5 a0_6 a0_7))
theorem tallboylaw29_FramePacks.mono_l : ∀ k, (∀ y0 y1 y2 y3 y4 y5 y6 y7 y8 y9, LeO (tallboylaw29_FramePacks.j0 k y0 y1 y2 y3 y4 y5 y6 y7 y8 y9) (tallboylaw29_FramePacks.j0 (k + 1) y0 y1 y2 y3 y4 y5 y6 y7 y8 y9))
 | 0 => fun _ _ _ _ _ _ _ _ _ _ r h => by simp [tallboylaw29_FramePacks.j0] at h
 | k + 1 => by
  have ih0 := tallboylaw29_FramePacks.mono_l k
  ·intro y0 y1 y2 y3 y4 y5 y6 y7 y8 y9
   unfold tallboylaw29_FramePacks.j0
   repeat' first
   | (with_reducible exact ih0 _ _ _ _ _ _ _ _ _ _)
   | (with_reducible exact frame_Unpack.mono _ _)
   | (with_reducible exact tallboyref29_Pack.mono _ _ _ _ _ _ _ _ _)
   | (with_reducible exact tallboyref29_Unpack.mono _ _)
   | (with_reducible exact LeO.refl _)
   | (with_reducible exact LeO.none _)
   | (with_reducible refine LeO.ite ?_ ?_)
   | (with_reducible refine LeO.bind ?_ (fun _ => ?_))
   | exact ih0 _ _ _ _ _ _ _ _ _ _
   | exact frame_Unpack.mono _ _
   | exact tallboyref29_Pack.mono _ _ _ _ _ _ _ _ _
   | exact tallboyref29_Unpack.mono _ _
   | exact LeO.none _
   | refine LeO.ite ?_ ?_
   | refine LeO.bind ?_ (fun _ => ?_)
theorem tallboylaw29_FramePacks.mono : ∀ a0 a1 a2 a3 a4 a5 a6 a7 a8 k, LeO (tallboylaw29_FramePacks.f k a0 a1 a2 a3 a4 a5 a6 a7 a8) (tallboylaw29_FramePacks.f (k + 1) a0 a1 a2 a3 a4 a5 a6 a7 a8) := by
 intro a0 a1 a2 a3 a4 a5 a6 a7 a8 k
 have ih0 := tallboylaw29_FramePacks.mono_l k; unfold tallboylaw29_FramePacks.f
 repeat' first
   | (with_reducible exact ih0 _ _ _ _ _ _ _ _ _ _)
   | (with_reducible exact frame_Unpack.mono _ _)
   | (with_reducible exact tallboyref29_Pack.mono _ _ _ _ _ _ _ _ _)
   | (with_reducible exact tallboyref29_Unpack.mono _ _)
   | (with_reducible exact LeO.refl _)
   | (with_reducible exact LeO.none _)
   | (with_reducible refine LeO.ite ?_ ?_)
   | (with_reducible refine LeO.bind ?_ (fun _ => ?_))
   | exact ih0 _ _ _ _ _ _ _ _ _ _
   | exact frame_Unpack.mono _ _
   | exact tallboyref29_Pack.mono _ _ _ _ _ _ _ _ _
   | exact tallboyref29_Unpack.mono _ _
   | exact LeO.none _
   | refine LeO.ite ?_ ?_
   | refine LeO.bind ?_ (fun _ => ?_)
def tallboylaw29_FramePacks.T7 : Bool × List (List Nat × List Nat) := (true, [([], []), ([], []), ([0, 1], [0, 1]), ([2], [2]), ([3], [3]), ([3], [3]), ([4, 5, 3], [3, 4, 5]), ([3, 6], [3, 6]), ([7, 3], [7]), ([8], [8]), ([9, 8, 8], [8, 9]), ([8], [8]), ([10, 11, 8], [8, 10, 11]), ([8, 12], [8, 12]), ([13, 10], [13]), ([14], [14]), ([14], [14]), ([15, 16, 14], [14, 15, 16]), ([14, 17], [14, 17]), ([18, 14], [18]), ([19], [19]), ([19], [19]), ([20, 21, 19], [19, 20, 21]), ([19, 22], [19, 22]), ([23, 19, 0, 1, 2, 3, 4, 5, 6, 7, 8, 9, 10, 11, 12, 13, 14, 15, 16, 17, 18, 19, 20, 21, 22, 23], [23])])
def tallboylaw29_FramePacks.B7 : List Nat := [0, 0, 3, 7, 15, 15, 63, 127, 255, 511, 1023, 511, 4095, 8191, 16383, 32767, 32767, 131071, 262143, 524287, 1048575, 1048575, 4194303, 8388607, 16777215]
theorem tallboylaw29_FramePacks.tab7 : rtab .any (opsOf Try.f3 7) = tallboylaw29_FramePacks.T7 := by kernel_rfl
theorem tallboylaw29_FramePacks.bits7 : waitsOk tallboylaw29_FramePacks.T7.2 tallboylaw29_FramePacks.B7 = true := by kernel_rfl
set_option maxHeartbeats 8000000 in
set_option maxRecDepth 100000 in
theorem tallboylaw29_FramePacks.calls (k : Nat) (a0_0 : Bool) (a0_1 : Int) (a0_2 : Int) (a0_3 : Int) (a0_4 : Int) (a0_5 : ByteArray) (a0_6 : ByteArray) (a0_7 : ByteArray) (a1 : ByteArray) (r : Bool) (w : World) (h : tallboylaw29_FramePacks.f k a0_0 a0_1 a0_2 a0_3 a0_4 a0_5 a0_6 a0_7 a1 = some r) :
  Calls Try.prog 3 #[.agg #[.bool a0_0, .int .u8 a0_1, .int .u16 a0_2, .int .u32 a0_3, .int .u64 a0_4, .string a0_5, .string a0_6, .string a0_7], .string a1] w fun e w' => e = .returned (.bool r) ∧ Below w.heap.size w w' := by
 have hu26 := Try.underlying26; have hu31 := Try.underlying31; have HB := Aside0.mk (Below.refl w.heap.size w); have H : ((tallboylaw29_Great.f a0_0 a0_1 a0_2 a0_3 a0_4 a0_5 a0_6 a0_7).bind fun t139 => (if t139 = true then (tallboylaw29_FramePacks.j0 k a1 true a0_0 a0_1 a0_2 a0_3 a0_4 a0_5 a0_6 a0_7) else (tallboylaw29_FramePacks.j0 k a1 (decide ((a1.size : Int) > 40000)) a0_0 a0_1 a0_2 a0_3 a0_4 a0_5 a0_6 a0_7))) = some r := h; clear h; have HC3 := Aside0.mk H; clear H; go_enter Try.func3, Try.ntmps3
 go_upto_region 1 with (first | ((with_reducible refine gate_dst (N := 2) rfl ?_); (try (refine gate_guard (by rfl) ?_; dsimp only)); refine box_event ?hg (N := 2) ?hd (cs := #[.bool a0_0, .int .u8 a0_1, .int .u16 a0_2, .int .u32 a0_3, .int .u64 a0_4, .string a0_5, .string a0_6, .string a0_7]) (t := 26) ?hr ?_; (case hd => rfl); (case hg => rfl); (case hr => first | (go_simp; done) | (go_simp; rfl)); intro gb138 hg w4 hbox hb; have n0_ := Aside0.mk (below_step (by repeat (first | (with_reducible first | exact HB.out | apply eA | apply eN | apply eD) | exact HB.out)) hb); have n1_ := Aside0.mk (hbox); have n2_ := Aside0.mk ((by rw [hg]; exact (below_size (by repeat (first | (with_reducible first | exact HB.out | apply eA | apply eN | apply eD) | exact HB.out))) : w.heap.size ≤ gb138)); have n3_ := n2_; clear HB; have HB := n0_; have BK138 := n1_; have GW138 := n2_; have GE138 := n3_; clear n0_ n1_ n2_ n3_; clear hb hbox hg))
 (try simp only [Act.put, sA, sB, sC])
 go_cut [21] (fun v21 wc => ∃ (kq : Nat) (x21_2 : Bool), v21 = .bool x21_2 ∧ Aside0 (tallboylaw29_FramePacks.j0 kq a1 x21_2 a0_0 a0_1 a0_2 a0_3 a0_4 a0_5 a0_6 a0_7 = some r) ∧ Aside0 (kq ≤ k) ∧ Aside0 (wc.heap[gb138]? = some (.cells #[.bool a0_0, .int .u8 a0_1, .int .u16 a0_2, .int .u32 a0_3, .int .u64 a0_4, .string a0_5, .string a0_6, .string a0_7] 26 (0, 0))) ∧ Aside0 (Below w.heap.size w wc))
 case first =>
  have H := HC3.out; clear HC3; replace H := Option.bind_eq_some_iff.mp H; obtain ⟨t139, A50, H⟩ := H; replace H : (if t139 = true then (tallboylaw29_FramePacks.j0 k a1 true a0_0 a0_1 a0_2 a0_3 a0_4 a0_5 a0_6 a0_7) else (tallboylaw29_FramePacks.j0 k a1 (decide ((a1.size : Int) > 40000)) a0_0 a0_1 a0_2 a0_3 a0_4 a0_5 a0_6 a0_7)) = some r := H; have A5 := Aside0.mk A50; clear A50
  by_cases c6 : t139 = true
  ·subst c6; have H1 : (tallboylaw29_FramePacks.j0 k a1 true a0_0 a0_1 a0_2 a0_3 a0_4 a0_5 a0_6 a0_7) = some r := by rw [if_pos rfl] at H; exact H
   clear H; have H := H1; clear H1; have H' := Aside0.mk H; clear H; obtain ⟨hcz7_0, hcz7_1, hcz7_2, hcz7_3, hcz7_4, hcz7_5, hcz7_6, hcz7_7, hfz7_0, hfz7_1, hfz7_2, hfz7_3, hfz7_4, hfz7_5, hfz7_6, hfz7_7⟩ := c8 BK138.out
   go_wp2_with (first | ((with_reducible refine gate_callee (f := 11) rfl ?_); refine goesL_ (some 16) rfl rfl Try.func11 (by kernel_rfl) rfl #[.agg #[.bool a0_0, .int .u8 a0_1, .int .u16 a0_2, .int .u32 a0_3, .int .u64 a0_4, .string a0_5, .string a0_6, .string a0_7]] rfl (by (try simp only [List.map_toArray, List.map_cons, List.map_nil]); first | done | rfl | (simp only [List.length_drop, List.length_take]; rfl)) ?_; (with_reducible refine (tallboylaw29_Great.calls a0_0 a0_1 a0_2 a0_3 a0_4 a0_5 a0_6 a0_7 true _ A5.out).mono ?_); rintro e w8 ⟨rfl, hb⟩; refine ⟨_, rfl, ?_⟩; have n0_ := Aside0.mk (blk_below (g := gb138) (o := .cells #[.bool a0_0, .int .u8 a0_1, .int .u16 a0_2, .int .u32 a0_3, .int .u64 a0_4, .string a0_5, .string a0_6, .string a0_7] 26 (0, 0)) (by (with_reducible repeat (first | refine bN ?_ _ | refine bD ?_ | refine bA ?_ _)); exact BK138.out) hb); have n1_ := Aside0.mk (below_step (by repeat (first | (with_reducible first | exact HB.out | apply eA | apply eN | apply eD | refine eS ?_ GE138.out) | exact HB.out)) hb); clear BK138; clear HB; have BK138 := n0_; have HB := n1_; clear n0_ n1_; (try clear hb); (try clear hb2); (try clear hk); (try clear hi)))
   go_meet
   case rel => exact ⟨_, (true), (by first | rfl | (simp; done) | (simp [*]; done)), H', ⟨by first | omega | exact Nat.le_refl _⟩, ⟨by (with_reducible repeat (first | refine bN ?_ _ | refine bD ?_ | refine bA ?_ _)); exact BK138.out⟩, ⟨by repeat (first | (with_reducible first | exact HB.out | apply eA | apply eN | apply eD | refine eS ?_ GE138.out) | exact HB.out)⟩⟩
  ·replace c6 := Bool.eq_false_iff.mpr c6; subst c6; have H1 : (tallboylaw29_FramePacks.j0 k a1 (decide ((a1.size : Int) > 40000)) a0_0 a0_1 a0_2 a0_3 a0_4 a0_5 a0_6 a0_7) = some r := by rw [if_neg (show ¬ (false = true) by decide)] at H; exact H
   clear H; have H := H1; clear H1; have H' := Aside0.mk H; clear H; obtain ⟨hcz9_0, hcz9_1, hcz9_2, hcz9_3, hcz9_4, hcz9_5, hcz9_6, hcz9_7, hfz9_0, hfz9_1, hfz9_2, hfz9_3, hfz9_4, hfz9_5, hfz9_6, hfz9_7⟩ := c8 BK138.out
   go_wp2_with (first | ((with_reducible refine gate_callee (f := 11) rfl ?_); refine goesL_ (some 16) rfl rfl Try.func11 (by kernel_rfl) rfl #[.agg #[.bool a0_0, .int .u8 a0_1, .int .u16 a0_2, .int .u32 a0_3, .int .u64 a0_4, .string a0_5, .string a0_6, .string a0_7]] rfl (by (try simp only [List.map_toArray, List.map_cons, List.map_nil]); first | done | rfl | (simp only [List.length_drop, List.length_take]; rfl)) ?_; (with_reducible refine (tallboylaw29_Great.calls a0_0 a0_1 a0_2 a0_3 a0_4 a0_5 a0_6 a0_7 false _ A5.out).mono ?_); rintro e w10 ⟨rfl, hb⟩; refine ⟨_, rfl, ?_⟩; have n0_ := Aside0.mk (blk_below (g := gb138) (o := .cells #[.bool a0_0, .int .u8 a0_1, .int .u16 a0_2, .int .u32 a0_3, .int .u64 a0_4, .string a0_5, .string a0_6, .string a0_7] 26 (0, 0)) (by (with_reducible repeat (first | refine bN ?_ _ | refine bD ?_ | refine bA ?_ _)); exact BK138.out) hb); have n1_ := Aside0.mk (below_step (by repeat (first | (with_reducible first | exact HB.out | apply eA | apply eN | apply eD | refine eS ?_ GE138.out) | exact HB.out)) hb); clear BK138; clear HB; have BK138 := n0_; have HB := n1_; clear n0_ n1_; (try clear hb); (try clear hb2); (try clear hk); (try clear hi)))
   go_meet
   case rel => exact ⟨_, (decide ((a1.size : Int) > 40000)), (by first | rfl | (simp; done) | (simp [*]; done)), H', ⟨by first | omega | exact Nat.le_refl _⟩, ⟨by (with_reducible repeat (first | refine bN ?_ _ | refine bD ?_ | refine bA ?_ _)); exact BK138.out⟩, ⟨by repeat (first | (with_reducible first | exact HB.out | apply eA | apply eN | apply eD | refine eS ?_ GE138.out) | exact HB.out)⟩⟩
 case rest =>
  clear HC3; (try clear c1); (try clear p2); (try clear c3); (try clear c6); (try clear hcz7_0 hcz7_1 hcz7_2 hcz7_3 hcz7_4 hcz7_5 hcz7_6 hcz7_7); (try clear hcz9_0 hcz9_1 hcz9_2 hcz9_3 hcz9_4 hcz9_5 hcz9_6 hcz9_7); (try clear hfz7_0 hfz7_1 hfz7_2 hfz7_3 hfz7_4 hfz7_5 hfz7_6 hfz7_7); (try clear hfz9_0 hfz9_1 hfz9_2 hfz9_3 hfz9_4 hfz9_5 hfz9_6 hfz9_7); obtain ⟨kq, x21_2, rfl, HA, HJ2, BK138, HB⟩ := hcut; cases kq with
  | zero => exact absurd HA.out (by simp [tallboylaw29_FramePacks.j0])
  | succ kj2 =>
   have H := HA.out; clear HA; simp only [tallboylaw29_FramePacks.j0] at H
   by_cases c11 : x21_2 = true
   ·subst c11; have H1 : (some true) = some r := by rw [if_pos rfl] at H; exact H
    clear H; have H := H1; clear H1; obtain rfl := Option.some.inj H; go_wp2; go_ret
    exact ⟨by first | rfl | (simp [errW_none, errW_some] <;> rfl) | (simp [*, errW_none, errW_some] <;> rfl), by repeat (first | (with_reducible first | exact HB.out | apply eA | apply eN | apply eD | refine eS ?_ GE138.out) | exact HB.out)⟩
   ·replace c11 := Bool.eq_false_iff.mpr c11; subst c11; have H1 : ((tallboylaw29_To.f a0_0 a0_1 a0_2 a0_3 a0_4 a0_5 a0_6 a0_7).bind fun bt140 => ((frame_Pack.f bt140.1 bt140.2.1 bt140.2.2.1 bt140.2.2.2.1 bt140.2.2.2.2.1 bt140.2.2.2.2.2.1 bt140.2.2.2.2.2.2.1 bt140.2.2.2.2.2.2.2).bind fun bt148 => ((tallboyref29_Pack.f kj2 a0_0 a0_1 a0_2 a0_3 a0_4 a0_5 a0_6 a0_7).bind fun bt150 => ((frame_Unpack.f kj2 a1).bind fun bt152 => ((tallboyref29_Unpack.f kj2 a1).bind fun bt163 => (if bt148.1.toList = bt150.1.toList then (if bt148.2 = bt150.2 then ((tallboylaw29_From.f bt152.1 bt152.2.1 bt152.2.2.1 bt152.2.2.2.1 bt152.2.2.2.2.1 bt152.2.2.2.2.2.1 bt152.2.2.2.2.2.2.1 bt152.2.2.2.2.2.2.2.1).bind fun bt174 => (if (bt174.1 == bt163.1 && (bt174.2.1 == bt163.2.1 && (bt174.2.2.1 == bt163.2.2.1 && (bt174.2.2.2.1 == bt163.2.2.2.1 && (bt174.2.2.2.2.1 == bt163.2.2.2.2.1 && (bt174.2.2.2.2.2.1.toList == bt163.2.2.2.2.2.1.toList && (bt174.2.2.2.2.2.2.1.toList == bt163.2.2.2.2.2.2.1.toList && (bt174.2.2.2.2.2.2.2.toList == bt163.2.2.2.2.2.2.2.1.toList)))))))) = true then (if bt152.2.2.2.2.2.2.2.2.1 = bt163.2.2.2.2.2.2.2.2.1 then (some (bt152.2.2.2.2.2.2.2.2.2 == bt163.2.2.2.2.2.2.2.2.2)) else (none)) else (none))) else (none)) else (none))))))) = some r := by rw [if_neg (show ¬ (false = true) by decide)] at H; exact H
    clear H; have H := H1; clear H1; replace H := Option.bind_eq_some_iff.mp H; obtain ⟨⟨t140, t141, t142, t143, t144, t145, t146, t147⟩, A120, H⟩ := H; replace H : ((frame_Pack.f t140 t141 t142 t143 t144 t145 t146 t147).bind fun bt148 => ((tallboyref29_Pack.f kj2 a0_0 a0_1 a0_2 a0_3 a0_4 a0_5 a0_6 a0_7).bind fun bt150 => ((frame_Unpack.f kj2 a1).bind fun bt152 => ((tallboyref29_Unpack.f kj2 a1).bind fun bt163 => (if bt148.1.toList = bt150.1.toList then (if bt148.2 = bt150.2 then ((tallboylaw29_From.f bt152.1 bt152.2.1 bt152.2.2.1 bt152.2.2.2.1 bt152.2.2.2.2.1 bt152.2.2.2.2.2.1 bt152.2.2.2.2.2.2.1 bt152.2.2.2.2.2.2.2.1).bind fun bt174 => (if (bt174.1 == bt163.1 && (bt174.2.1 == bt163.2.1 && (bt174.2.2.1 == bt163.2.2.1 && (bt174.2.2.2.1 == bt163.2.2.2.1 && (bt174.2.2.2.2.1 == bt163.2.2.2.2.1 && (bt174.2.2.2.2.2.1.toList == bt163.2.2.2.2.2.1.toList && (bt174.2.2.2.2.2.2.1.toList == bt163.2.2.2.2.2.2.1.toList && (bt174.2.2.2.2.2.2.2.toList == bt163.2.2.2.2.2.2.2.1.toList)))))))) = true then (if bt152.2.2.2.2.2.2.2.2.1 = bt163.2.2.2.2.2.2.2.2.1 then (some (bt152.2.2.2.2.2.2.2.2.2 == bt163.2.2.2.2.2.2.2.2.2)) else (none)) else (none))) else (none)) else (none)))))) = some r := H; have A12 := Aside0.mk A120; clear A120; replace H := Option.bind_eq_some_iff.mp H; obtain ⟨⟨t148, t149⟩, A130, H⟩ := H; replace H : ((tallboyref29_Pack.f kj2 a0_0 a0_1 a0_2 a0_3 a0_4 a0_5 a0_6 a0_7).bind fun bt150 => ((frame_Unpack.f kj2 a1).bind fun bt152 => ((tallboyref29_Unpack.f kj2 a1).bind fun bt163 => (if t148.toList = bt150.1.toList then (if t149 = bt150.2 then ((tallboylaw29_From.f bt152.1 bt152.2.1 bt152.2.2.1 bt152.2.2.2.1 bt152.2.2.2.2.1 bt152.2.2.2.2.2.1 bt152.2.2.2.2.2.2.1 bt152.2.2.2.2.2.2.2.1).bind fun bt174 => (if (bt174.1 == bt163.1 && (bt174.2.1 == bt163.2.1 && (bt174.2.2.1 == bt163.2.2.1 && (bt174.2.2.2.1 == bt163.2.2.2.1 && (bt174.2.2.2.2.1 == bt163.2.2.2.2.1 && (bt174.2.2.2.2.2.1.toList == bt163.2.2.2.2.2.1.toList && (bt174.2.2.2.2.2.2.1.toList == bt163.2.2.2.2.2.2.1.toList && (bt174.2.2.2.2.2.2.2.toList == bt163.2.2.2.2.2.2.2.1.toList)))))))) = true then (if bt152.2.2.2.2.2.2.2.2.1 = bt163.2.2.2.2.2.2.2.2.1 then (some (bt152.2.2.2.2.2.2.2.2.2 == bt163.2.2.2.2.2.2.2.2.2)) else (none)) else (none))) else (none)) else (none))))) = some r := H; have A13 := Aside0.mk A130; clear A130; replace H := Option.bind_eq_some_iff.mp H; obtain ⟨⟨t150, t151⟩, A140, H⟩ := H
    replace H : ((frame_Unpack.f kj2 a1).bind fun bt152 => ((tallboyref29_Unpack.f kj2 a1).bind fun bt163 => (if t148.toList = t150.toList then (if t149 = t151 then ((tallboylaw29_From.f bt152.1 bt152.2.1 bt152.2.2.1 bt152.2.2.2.1 bt152.2.2.2.2.1 bt152.2.2.2.2.2.1 bt152.2.2.2.2.2.2.1 bt152.2.2.2.2.2.2.2.1).bind fun bt174 => (if (bt174.1 == bt163.1 && (bt174.2.1 == bt163.2.1 && (bt174.2.2.1 == bt163.2.2.1 && (bt174.2.2.2.1 == bt163.2.2.2.1 && (bt174.2.2.2.2.1 == bt163.2.2.2.2.1 && (bt174.2.2.2.2.2.1.toList == bt163.2.2.2.2.2.1.toList && (bt174.2.2.2.2.2.2.1.toList == bt163.2.2.2.2.2.2.1.toList && (bt174.2.2.2.2.2.2.2.toList == bt163.2.2.2.2.2.2.2.1.toList)))))))) = true then (if bt152.2.2.2.2.2.2.2.2.1 = bt163.2.2.2.2.2.2.2.2.1 then (some (bt152.2.2.2.2.2.2.2.2.2 == bt163.2.2.2.2.2.2.2.2.2)) else (none)) else (none))) else (none)) else (none)))) = some r := H; have A14 := Aside0.mk A140; clear A140; replace H := Option.bind_eq_some_iff.mp H; obtain ⟨⟨t152, t153, t154, t155, t156, t157, t158, t159, t160, t161⟩, A150, H⟩ := H; replace H : ((tallboyref29_Unpack.f kj2 a1).bind fun bt163 => (if t148.toList = t150.toList then (if t149 = t151 then ((tallboylaw29_From.f t152 t153 t154 t155 t156 t157 t158 t159).bind fun bt174 => (if (bt174.1 == bt163.1 && (bt174.2.1 == bt163.2.1 && (bt174.2.2.1 == bt163.2.2.1 && (bt174.2.2.2.1 == bt163.2.2.2.1 && (bt174.2.2.2.2.1 == bt163.2.2.2.2.1 && (bt174.2.2.2.2.2.1.toList == bt163.2.2.2.2.2.1.toList && (bt174.2.2.2.2.2.2.1.toList == bt163.2.2.2.2.2.2.1.toList && (bt174.2.2.2.2.2.2.2.toList == bt163.2.2.2.2.2.2.2.1.toList)))))))) = true then (if t160 = bt163.2.2.2.2.2.2.2.2.1 then (some (t161 == bt163.2.2.2.2.2.2.2.2.2)) else (none)) else (none))) else (none)) else (none))) = some r := H; have A15 := Aside0.mk A150; clear A150; replace H := Option.bind_eq_some_iff.mp H; obtain ⟨⟨t163, t164, t165, t166, t167, t168, t169, t170, t171, t172⟩, A160, H⟩ := H; replace H : (if t148.toList = t150.toList then (if t149 = t151 then ((tallboylaw29_From.f t152 t153 t154 t155 t156 t157 t158 t159).bind fun bt174 => (if (bt174.1 == t163 && (bt174.2.1 == t164 && (bt174.2.2.1 == t165 && (bt174.2.2.2.1 == t166 && (bt174.2.2.2.2.1 == t167 && (bt174.2.2.2.2.2.1.toList == t168.toList && (bt174.2.2.2.2.2.2.1.toList == t169.toList && (bt174.2.2.2.2.2.2.2.toList == t170.toList)))))))) = true then (if t160 = t171 then (some (t161 == t172)) else (none)) else (none))) else (none)) else (none)) = some r := H; have A16 := Aside0.mk A160; clear A160
    by_cases c17 : t148.toList = t150.toList
    ·rw [if_pos c17] at H; have c17b0 : (t148.toList == t150.toList) = true := beq_iff_eq.mpr c17; have c17b1 : (t148.toList != t150.toList) = false := bne_eq_false_iff_eq.mpr c17; clear c17
     by_cases c18 : t149 = t151
     ·rw [if_pos c18] at H; have c18b0 : (t149 == t151) = true := beq_iff_eq.mpr c18; have c18b1 : (t149 != t151) = false := bne_eq_false_iff_eq.mpr c18; clear c18; replace H := Option.bind_eq_some_iff.mp H; obtain ⟨⟨t174, t175, t176, t177, t178, t179, t180, t181⟩, A190, H⟩ := H; replace H : (if (t174 == t163 && (t175 == t164 && (t176 == t165 && (t177 == t166 && (t178 == t167 && (t179.toList == t168.toList && (t180.toList == t169.toList && (t181.toList == t170.toList)))))))) = true then (if t160 = t171 then (some (t161 == t172)) else (none)) else (none)) = some r := H; have A19 := Aside0.mk A190; clear A190
      by_cases c20 : (t174 == t163 && (t175 == t164 && (t176 == t165 && (t177 == t166 && (t178 == t167 && (t179.toList == t168.toList && (t180.toList == t169.toList && (t181.toList == t170.toList)))))))) = true
      ·rw [if_pos c20] at H; have c20b0 : (t174 == t163 && (t175 == t164 && (t176 == t165 && (t177 == t166 && (t178 == t167 && (t179.toList == t168.toList && (t180.toList == t169.toList && (t181.toList == t170.toList)))))))) = true := c20
       (try (have c20b1 : decide (t174 = t163 && (t175 == t164 && (t176 == t165 && (t177 == t166 && (t178 == t167 && (t179.toList == t168.toList && (t180.toList == t169.toList && (t181.toList == t170.toList)))))))) = true := by simpa using c20))
       (try (have c20b2 : (t174 == t163 && (t175 == t164 && (t176 == t165 && (t177 == t166 && (t178 == t167 && (t179.toList == t168.toList && (t180.toList == t169.toList && (t181.toList == t170.toList)))))))) = true := by simpa using c20))
       clear c20
       by_cases c21 : t160 = t171
       ·rw [if_pos c21] at H; have c21b0 : (t160 == t171) = true := beq_iff_eq.mpr c21; have c21b1 : (t160 != t171) = false := bne_eq_false_iff_eq.mpr c21; clear c21; obtain rfl := Option.some.inj H; obtain ⟨hcz22_0, hcz22_1, hcz22_2, hcz22_3, hcz22_4, hcz22_5, hcz22_6, hcz22_7, hfz22_0, hfz22_1, hfz22_2, hfz22_3, hfz22_4, hfz22_5, hfz22_6, hfz22_7⟩ := c8 BK138.out
        try go_wp2_with (first | ((with_reducible refine gate_callee (f := 13) rfl ?_); refine goesL_ (some 24) rfl rfl Try.func13 (by kernel_rfl) rfl #[.agg #[.bool a0_0, .int .u8 a0_1, .int .u16 a0_2, .int .u32 a0_3, .int .u64 a0_4, .string a0_5, .string a0_6, .string a0_7]] rfl (by (try simp only [List.map_toArray, List.map_cons, List.map_nil]); first | done | rfl | (simp only [List.length_drop, List.length_take]; rfl)) ?_; (with_reducible refine (tallboylaw29_To.calls a0_0 a0_1 a0_2 a0_3 a0_4 a0_5 a0_6 a0_7 t140 t141 t142 t143 t144 t145 t146 t147 _ A12.out).mono ?_); rintro e w23 ⟨rfl, hb⟩; refine ⟨_, rfl, ?_⟩; have n0_ := Aside0.mk (blk_below (g := gb138) (o := .cells #[.bool a0_0, .int .u8 a0_1, .int .u16 a0_2, .int .u32 a0_3, .int .u64 a0_4, .string a0_5, .string a0_6, .string a0_7] 26 (0, 0)) (by (with_reducible repeat (first | refine bN ?_ _ | refine bD ?_ | refine bA ?_ _)); exact BK138.out) hb); have n1_ := Aside0.mk (below_step (by repeat (first | (with_reducible first | exact HB.out | apply eA | apply eN | apply eD | refine eS ?_ GE138.out) | exact HB.out)) hb); clear BK138; clear HB; have BK138 := n0_; have HB := n1_; clear n0_ n1_; (try clear hb); (try clear hb2); (try clear hk); (try clear hi)) | ((with_reducible refine gate_callee (f := 12) rfl ?_); refine goesL_ (some 25) rfl rfl Try.func12 (by kernel_rfl) rfl #[.agg #[.bool t140, .int .u8 t141, .int .u16 t142, .int .u32 t143, .int .u64 t144, .string t145, .string t146, .string t147]] rfl (by (try simp only [List.map_toArray, List.map_cons, List.map_nil]); first | done | rfl | (simp only [List.length_drop, List.length_take]; rfl)) ?_; (with_reducible refine (frame_Pack.calls t140 t141 t142 t143 t144 t145 t146 t147 t148 t149 _ A13.out).mono ?_); rintro e w24 ⟨rfl, hb⟩; refine ⟨_, rfl, ?_⟩; have n0_ := Aside0.mk (blk_below (g := gb138) (o := .cells #[.bool a0_0, .int .u8 a0_1, .int .u16 a0_2, .int .u32 a0_3, .int .u64 a0_4, .string a0_5, .string a0_6, .string a0_7] 26 (0, 0)) (by (with_reducible repeat (first | refine bN ?_ _ | refine bD ?_ | refine bA ?_ _)); exact BK138.out) hb); have n1_ := Aside0.mk (below_step (by repeat (first | (with_reducible first | exact HB.out | apply eA | apply eN | apply eD | refine eS ?_ GE138.out) | exact HB.out)) hb); clear BK138; clear HB; have BK138 := n0_; have HB := n1_; clear n0_ n1_; (try clear hb); (try clear hb2); (try clear hk); (try clear hi); obtain ⟨hcz25_0, hcz25_1, hcz25_2, hcz25_3, hcz25_4, hcz25_5, hcz25_6, hcz25_7, hfz25_0, hfz25_1, hfz25_2, hfz25_3, hfz25_4, hfz25_5, hfz25_6, hfz25_7⟩ := c8 BK138.out) | ((with_reducible refine gate_callee (f := 14) rfl ?_); refine goesL_ (some 30) rfl rfl Try.func14 (by kernel_rfl) rfl #[.agg #[.bool a0_0, .int .u8 a0_1, .int .u16 a0_2, .int .u32 a0_3, .int .u64 a0_4, .string a0_5, .string a0_6, .string a0_7]] rfl (by (try simp only [List.map_toArray, List.map_cons, List.map_nil]); first | done | rfl | (simp only [List.length_drop, List.length_take]; rfl)) ?_; (with_reducible refine (tallboyref29_Pack.calls kj2 a0_0 a0_1 a0_2 a0_3 a0_4 a0_5 a0_6 a0_7 t150 t151 _ A14.out).mono ?_); rintro e w26 ⟨rfl, hb⟩; refine ⟨_, rfl, ?_⟩; have n0_ := Aside0.mk (blk_below (g := gb138) (o := .cells #[.bool a0_0, .int .u8 a0_1, .int .u16 a0_2, .int .u32 a0_3, .int .u64 a0_4, .string a0_5, .string a0_6, .string a0_7] 26 (0, 0)) (by (with_reducible repeat (first | refine bN ?_ _ | refine bD ?_ | refine bA ?_ _)); exact BK138.out) hb); have n1_ := Aside0.mk (below_step (by repeat (first | (with_reducible first | exact HB.out | apply eA | apply eN | apply eD | refine eS ?_ GE138.out) | exact HB.out)) hb); clear BK138; clear HB; have BK138 := n0_; have HB := n1_; clear n0_ n1_; (try clear hb); (try clear hb2); (try clear hk); (try clear hi)) | ((with_reducible refine gate_callee (f := 15) rfl ?_); refine goesL_ (some 35) rfl rfl Try.func15 (by kernel_rfl) rfl #[.string a1] rfl (by (try simp only [List.map_toArray, List.map_cons, List.map_nil]); first | done | rfl | (simp only [List.length_drop, List.length_take]; rfl)) ?_; (with_reducible refine (frame_Unpack.calls kj2 a1 t152 t153 t154 t155 t156 t157 t158 t159 t160 t161 _ A15.out).mono ?_); rintro e w27 ⟨rfl, hb⟩; refine ⟨_, rfl, ?_⟩; have n0_ := Aside0.mk (blk_below (g := gb138) (o := .cells #[.bool a0_0, .int .u8 a0_1, .int .u16 a0_2, .int .u32 a0_3, .int .u64 a0_4, .string a0_5, .string a0_6, .string a0_7] 26 (0, 0)) (by (with_reducible repeat (first | refine bN ?_ _ | refine bD ?_ | refine bA ?_ _)); exact BK138.out) hb); have n1_ := Aside0.mk (below_step (by repeat (first | (with_reducible first | exact HB.out | apply eA | apply eN | apply eD | refine eS ?_ GE138.out) | exact HB.out)) hb); clear BK138; clear HB; have BK138 := n0_; have HB := n1_; clear n0_ n1_; (try clear hb); (try clear hb2); (try clear hk); (try clear hi)) | ((with_reducible refine gate_dst (N := 9) rfl ?_); (try (refine gate_guard (by rfl) ?_; dsimp only)); refine box_event ?hg (N := 9) ?hd (cs := #[.bool false, .int .u8 0, .int .u16 0, .int .u32 0, .int .u64 0, .string (⟨#[]⟩ : ByteArray), .string (⟨#[]⟩ : ByteArray), .string (⟨#[]⟩ : ByteArray)]) (t := 31) ?hr ?_; (case hd => rfl); (case hg => rfl); (case hr => first | (go_simp; done) | (go_simp; rfl)); intro gb162 hg w28 hbox hb; have n0_ := Aside0.mk (blk_below (g := gb138) (o := .cells #[.bool a0_0, .int .u8 a0_1, .int .u16 a0_2, .int .u32 a0_3, .int .u64 a0_4, .string a0_5, .string a0_6, .string a0_7] 26 (0, 0)) (by (with_reducible repeat (first | refine bN ?_ _ | refine bD ?_ | refine bA ?_ _)); exact BK138.out) hb); have n1_ := Aside0.mk (below_step (by repeat (first | (with_reducible first | exact HB.out | apply eA | apply eN | apply eD | refine eS ?_ GE138.out) | exact HB.out)) hb); have n2_ := Aside0.mk (hbox); have n3_ := Aside0.mk ((by rw [hg]; exact (below_size (by repeat (first | (with_reducible first | exact HB.out | apply eA | apply eN | apply eD | refine eS ?_ GE138.out) | exact HB.out))) : w.heap.size ≤ gb162)); have n4_ := n3_; have n5_ := Aside0.mk ((by rw [hg]; exact Nat.ne_of_lt (blk_lt (g := gb138) (o := .cells #[.bool a0_0, .int .u8 a0_1, .int .u16 a0_2, .int .u32 a0_3, .int .u64 a0_4, .string a0_5, .string a0_6, .string a0_7] 26 (0, 0)) (by (with_reducible repeat (first | refine bN ?_ _ | refine bD ?_ | refine bA ?_ _)); exact BK138.out)) : gb138 ≠ gb162)); have n6_ := Aside0.mk (Ne.symm n5_.out); clear BK138; clear HB; have BK138 := n0_; have HB := n1_; have BK162 := n2_; have GW162 := n3_; have GE162 := n4_; have NB138_162 := n5_; have NB162_138 := n6_; clear n0_ n1_ n2_ n3_ n4_ n5_ n6_; clear hb hbox hg; have hnb29 := NB162_138.out; have hnc29 := NB138_162.out; obtain ⟨hcz30_0, hcz30_1, hcz30_2, hcz30_3, hcz30_4, hcz30_5, hcz30_6, hcz30_7, hfz30_0, hfz30_1, hfz30_2, hfz30_3, hfz30_4, hfz30_5, hfz30_6, hfz30_7⟩ := c8 BK162.out) | ((with_reducible refine gate_callee (f := 16) rfl ?_); refine goesL_ (some 41) rfl rfl Try.func16 (by kernel_rfl) rfl #[.string a1] rfl (by (try simp only [List.map_toArray, List.map_cons, List.map_nil]); first | done | rfl | (simp only [List.length_drop, List.length_take]; rfl)) ?_; (with_reducible refine (tallboyref29_Unpack.calls kj2 a1 t163 t164 t165 t166 t167 t168 t169 t170 t171 t172 _ A16.out).mono ?_); rintro e w31 ⟨rfl, hb⟩; refine ⟨_, rfl, ?_⟩; have n0_ := Aside0.mk (blk_below (g := gb138) (o := .cells #[.bool a0_0, .int .u8 a0_1, .int .u16 a0_2, .int .u32 a0_3, .int .u64 a0_4, .string a0_5, .string a0_6, .string a0_7] 26 (0, 0)) (by (with_reducible repeat (first | refine bN ?_ _ | refine bD ?_ | refine bA ?_ _)); refine blk_far ?_ NB138_162.out _; (with_reducible repeat (first | refine bN ?_ _ | refine bD ?_ | refine bA ?_ _)); refine blk_far ?_ NB138_162.out _; (with_reducible repeat (first | refine bN ?_ _ | refine bD ?_ | refine bA ?_ _)); refine blk_far ?_ NB138_162.out _; (with_reducible repeat (first | refine bN ?_ _ | refine bD ?_ | refine bA ?_ _)); refine blk_far ?_ NB138_162.out _; (with_reducible repeat (first | refine bN ?_ _ | refine bD ?_ | refine bA ?_ _)); refine blk_far ?_ NB138_162.out _; (with_reducible repeat (first | refine bN ?_ _ | refine bD ?_ | refine bA ?_ _)); refine blk_far ?_ NB138_162.out _; (with_reducible repeat (first | refine bN ?_ _ | refine bD ?_ | refine bA ?_ _)); refine blk_far ?_ NB138_162.out _; (with_reducible repeat (first | refine bN ?_ _ | refine bD ?_ | refine bA ?_ _)); refine blk_far ?_ NB138_162.out _; (with_reducible repeat (first | refine bN ?_ _ | refine bD ?_ | refine bA ?_ _)); exact BK138.out) hb); have n1_ := Aside0.mk (blk_below (g := gb162) (o := .cells #[.bool t152, .int .u8 t153, .int .u16 t154, .int .u32 t155, .int .u64 t156, .string t157, .string t158, .string t159] 31 (0, 0)) (by (with_reducible repeat (first | refine bN ?_ _ | refine bD ?_ | refine bA ?_ _)); refine blk_put (cs := #[.bool t152, .int .u8 t153, .int .u16 t154, .int .u32 t155, .int .u64 t156, .string t157, .string t158, .string (⟨#[]⟩ : ByteArray)]) ?_ 7 _ rfl; (with_reducible repeat (first | refine bN ?_ _ | refine bD ?_ | refine bA ?_ _)); refine blk_put (cs := #[.bool t152, .int .u8 t153, .int .u16 t154, .int .u32 t155, .int .u64 t156, .string t157, .string (⟨#[]⟩ : ByteArray), .string (⟨#[]⟩ : ByteArray)]) ?_ 6 _ rfl; (with_reducible repeat (first | refine bN ?_ _ | refine bD ?_ | refine bA ?_ _)); refine blk_put (cs := #[.bool t152, .int .u8 t153, .int .u16 t154, .int .u32 t155, .int .u64 t156, .string (⟨#[]⟩ : ByteArray), .string (⟨#[]⟩ : ByteArray), .string (⟨#[]⟩ : ByteArray)]) ?_ 5 _ rfl; (with_reducible repeat (first | refine bN ?_ _ | refine bD ?_ | refine bA ?_ _)); refine blk_put (cs := #[.bool t152, .int .u8 t153, .int .u16 t154, .int .u32 t155, .int .u64 0, .string (⟨#[]⟩ : ByteArray), .string (⟨#[]⟩ : ByteArray), .string (⟨#[]⟩ : ByteArray)]) ?_ 4 _ rfl; (with_reducible repeat (first | refine bN ?_ _ | refine bD ?_ | refine bA ?_ _)); refine blk_put (cs := #[.bool t152, .int .u8 t153, .int .u16 t154, .int .u32 0, .int .u64 0, .string (⟨#[]⟩ : ByteArray), .string (⟨#[]⟩ : ByteArray), .string (⟨#[]⟩ : ByteArray)]) ?_ 3 _ rfl; (with_reducible repeat (first | refine bN ?_ _ | refine bD ?_ | refine bA ?_ _)); refine blk_put (cs := #[.bool t152, .int .u8 t153, .int .u16 0, .int .u32 0, .int .u64 0, .string (⟨#[]⟩ : ByteArray), .string (⟨#[]⟩ : ByteArray), .string (⟨#[]⟩ : ByteArray)]) ?_ 2 _ rfl; (with_reducible repeat (first | refine bN ?_ _ | refine bD ?_ | refine bA ?_ _)); refine blk_put (cs := #[.bool t152, .int .u8 0, .int .u16 0, .int .u32 0, .int .u64 0, .string (⟨#[]⟩ : ByteArray), .string (⟨#[]⟩ : ByteArray), .string (⟨#[]⟩ : ByteArray)]) ?_ 1 _ rfl; (with_reducible repeat (first | refine bN ?_ _ | refine bD ?_ | refine bA ?_ _)); refine blk_put (cs := #[.bool false, .int .u8 0, .int .u16 0, .int .u32 0, .int .u64 0, .string (⟨#[]⟩ : ByteArray), .string (⟨#[]⟩ : ByteArray), .string (⟨#[]⟩ : ByteArray)]) ?_ 0 _ rfl; (with_reducible repeat (first | refine bN ?_ _ | refine bD ?_ | refine bA ?_ _)); exact BK162.out) hb); have n2_ := Aside0.mk (below_step (by repeat (first | (with_reducible first | exact HB.out | apply eA | apply eN | apply eD | refine eS ?_ GE138.out | refine eS ?_ GE162.out) | exact HB.out)) hb); clear BK138; clear BK162; clear HB; have BK138 := n0_; have BK162 := n1_; have HB := n2_; clear n0_ n1_ n2_; (try clear hb); (try clear hb2); (try clear hk); (try clear hi)) | ((with_reducible refine gate_dst (N := 12) rfl ?_); (try (refine gate_guard (by rfl) ?_; dsimp only)); refine box_event ?hg (N := 12) ?hd (cs := #[.bool false, .int .u8 0, .int .u16 0, .int .u32 0, .int .u64 0, .string (⟨#[]⟩ : ByteArray), .string (⟨#[]⟩ : ByteArray), .string (⟨#[]⟩ : ByteArray)]) (t := 26) ?hr ?_; (case hd => rfl); (case hg => rfl); (case hr => first | (go_simp; done) | (go_simp; rfl)); intro gb173 hg w32 hbox hb; have n0_ := Aside0.mk (blk_below (g := gb138) (o := .cells #[.bool a0_0, .int .u8 a0_1, .int .u16 a0_2, .int .u32 a0_3, .int .u64 a0_4, .string a0_5, .string a0_6, .string a0_7] 26 (0, 0)) (by (with_reducible repeat (first | refine bN ?_ _ | refine bD ?_ | refine bA ?_ _)); exact BK138.out) hb); have n1_ := Aside0.mk (blk_below (g := gb162) (o := .cells #[.bool t152, .int .u8 t153, .int .u16 t154, .int .u32 t155, .int .u64 t156, .string t157, .string t158, .string t159] 31 (0, 0)) (by (with_reducible repeat (first | refine bN ?_ _ | refine bD ?_ | refine bA ?_ _)); exact BK162.out) hb); have n2_ := Aside0.mk (below_step (by repeat (first | (with_reducible first | exact HB.out | apply eA | apply eN | apply eD | refine eS ?_ GE138.out | refine eS ?_ GE162.out) | exact HB.out)) hb); have n3_ := Aside0.mk (hbox); have n4_ := Aside0.mk ((by rw [hg]; exact (below_size (by repeat (first | (with_reducible first | exact HB.out | apply eA | apply eN | apply eD | refine eS ?_ GE138.out | refine eS ?_ GE162.out) | exact HB.out))) : w.heap.size ≤ gb173)); have n5_ := n4_; have n6_ := Aside0.mk ((by rw [hg]; exact Nat.ne_of_lt (blk_lt (g := gb138) (o := .cells #[.bool a0_0, .int .u8 a0_1, .int .u16 a0_2, .int .u32 a0_3, .int .u64 a0_4, .string a0_5, .string a0_6, .string a0_7] 26 (0, 0)) (by (with_reducible repeat (first | refine bN ?_ _ | refine bD ?_ | refine bA ?_ _)); exact BK138.out)) : gb138 ≠ gb173)); have n7_ := Aside0.mk (Ne.symm n6_.out); have n8_ := Aside0.mk ((by rw [hg]; exact Nat.ne_of_lt (blk_lt (g := gb162) (o := .cells #[.bool t152, .int .u8 t153, .int .u16 t154, .int .u32 t155, .int .u64 t156, .string t157, .string t158, .string t159] 31 (0, 0)) (by (with_reducible repeat (first | refine bN ?_ _ | refine bD ?_ | refine bA ?_ _)); exact BK162.out)) : gb162 ≠ gb173)); have n9_ := Aside0.mk (Ne.symm n8_.out); clear BK138; clear BK162; clear HB; have BK138 := n0_; have BK162 := n1_; have HB := n2_; have BK173 := n3_; have GW173 := n4_; have GE173 := n5_; have NB138_173 := n6_; have NB173_138 := n7_; have NB162_173 := n8_; have NB173_162 := n9_; clear n0_ n1_ n2_ n3_ n4_ n5_ n6_ n7_ n8_ n9_; clear hb hbox hg; have hnb33 := NB173_138.out; have hnc33 := NB138_173.out; have hnb34 := NB173_162.out; have hnc34 := NB162_173.out; obtain ⟨hcz35_0, hcz35_1, hcz35_2, hcz35_3, hcz35_4, hcz35_5, hcz35_6, hcz35_7, hfz35_0, hfz35_1, hfz35_2, hfz35_3, hfz35_4, hfz35_5, hfz35_6, hfz35_7⟩ := c8 BK173.out))
        have n0_ : Aside0 (((((((((w32.setCell ⟨gb173, 0, none⟩ (.bool t163)).setCell ⟨gb173, 1, none⟩ (.int .u8 t164)).setCell ⟨gb173, 2, none⟩ (.int .u16 t165)).setCell ⟨gb173, 3, none⟩ (.int .u32 t166)).setCell ⟨gb173, 4, none⟩ (.int .u64 t167)).setCell ⟨gb173, 5, none⟩ (.string t168)).setCell ⟨gb173, 6, none⟩ (.string t169)).setCell ⟨gb173, 7, none⟩ (.string t170)).heap[gb138]? = some (.cells #[.bool a0_0, .int .u8 a0_1, .int .u16 a0_2, .int .u32 a0_3, .int .u64 a0_4, .string a0_5, .string a0_6, .string a0_7] 26 (0, 0))) := ⟨by (with_reducible repeat (first | refine bN ?_ _ | refine bD ?_ | refine bA ?_ _)); refine blk_far ?_ NB138_173.out _; (with_reducible repeat (first | refine bN ?_ _ | refine bD ?_ | refine bA ?_ _)); refine blk_far ?_ NB138_173.out _; (with_reducible repeat (first | refine bN ?_ _ | refine bD ?_ | refine bA ?_ _)); refine blk_far ?_ NB138_173.out _; (with_reducible repeat (first | refine bN ?_ _ | refine bD ?_ | refine bA ?_ _)); refine blk_far ?_ NB138_173.out _; (with_reducible repeat (first | refine bN ?_ _ | refine bD ?_ | refine bA ?_ _)); refine blk_far ?_ NB138_173.out _; (with_reducible repeat (first | refine bN ?_ _ | refine bD ?_ | refine bA ?_ _)); refine blk_far ?_ NB138_173.out _; (with_reducible repeat (first | refine bN ?_ _ | refine bD ?_ | refine bA ?_ _)); refine blk_far ?_ NB138_173.out _; (with_reducible repeat (first | refine bN ?_ _ | refine bD ?_ | refine bA ?_ _)); refine blk_far ?_ NB138_173.out _; (with_reducible repeat (first | refine bN ?_ _ | refine bD ?_ | refine bA ?_ _)); exact BK138.out⟩
        have n1_ : Aside0 (((((((((w32.setCell ⟨gb173, 0, none⟩ (.bool t163)).setCell ⟨gb173, 1, none⟩ (.int .u8 t164)).setCell ⟨gb173, 2, none⟩ (.int .u16 t165)).setCell ⟨gb173, 3, none⟩ (.int .u32 t166)).setCell ⟨gb173, 4, none⟩ (.int .u64 t167)).setCell ⟨gb173, 5, none⟩ (.string t168)).setCell ⟨gb173, 6, none⟩ (.string t169)).setCell ⟨gb173, 7, none⟩ (.string t170)).heap[gb162]? = some (.cells #[.bool t152, .int .u8 t153, .int .u16 t154, .int .u32 t155, .int .u64 t156, .string t157, .string t158, .string t159] 31 (0, 0))) := ⟨by (with_reducible repeat (first | refine bN ?_ _ | refine bD ?_ | refine bA ?_ _)); refine blk_far ?_ NB162_173.out _; (with_reducible repeat (first | refine bN ?_ _ | refine bD ?_ | refine bA ?_ _)); refine blk_far ?_ NB162_173.out _; (with_reducible repeat (first | refine bN ?_ _ | refine bD ?_ | refine bA ?_ _)); refine blk_far ?_ NB162_173.out _; (with_reducible repeat (first | refine bN ?_ _ | refine bD ?_ | refine bA ?_ _)); refine blk_far ?_ NB162_173.out _; (with_reducible repeat (first | refine bN ?_ _ | refine bD ?_ | refine bA ?_ _)); refine blk_far ?_ NB162_173.out _; (with_reducible repeat (first | refine bN ?_ _ | refine bD ?_ | refine bA ?_ _)); refine blk_far ?_ NB162_173.out _; (with_reducible repeat (first | refine bN ?_ _ | refine bD ?_ | refine bA ?_ _)); refine blk_far ?_ NB162_173.out _; (with_reducible repeat (first | refine bN ?_ _ | refine bD ?_ | refine bA ?_ _)); refine blk_far ?_ NB162_173.out _; (with_reducible repeat (first | refine bN ?_ _ | refine bD ?_ | refine bA ?_ _)); exact BK162.out⟩
        have n2_ : Aside0 (((((((((w32.setCell ⟨gb173, 0, none⟩ (.bool t163)).setCell ⟨gb173, 1, none⟩ (.int .u8 t164)).setCell ⟨gb173, 2, none⟩ (.int .u16 t165)).setCell ⟨gb173, 3, none⟩ (.int .u32 t166)).setCell ⟨gb173, 4, none⟩ (.int .u64 t167)).setCell ⟨gb173, 5, none⟩ (.string t168)).setCell ⟨gb173, 6, none⟩ (.string t169)).setCell ⟨gb173, 7, none⟩ (.string t170)).heap[gb173]? = some (.cells #[.bool t163, .int .u8 t164, .int .u16 t165, .int .u32 t166, .int .u64 t167, .string t168, .string t169, .string t170] 26 (0, 0))) := ⟨by (with_reducible repeat (first | refine bN ?_ _ | refine bD ?_ | refine bA ?_ _)); refine blk_put (cs := #[.bool t163, .int .u8 t164, .int .u16 t165, .int .u32 t166, .int .u64 t167, .string t168, .string t169, .string (⟨#[]⟩ : ByteArray)]) ?_ 7 _ rfl; (with_reducible repeat (first | refine bN ?_ _ | refine bD ?_ | refine bA ?_ _)); refine blk_put (cs := #[.bool t163, .int .u8 t164, .int .u16 t165, .int .u32 t166, .int .u64 t167, .string t168, .string (⟨#[]⟩ : ByteArray), .string (⟨#[]⟩ : ByteArray)]) ?_ 6 _ rfl; (with_reducible repeat (first | refine bN ?_ _ | refine bD ?_ | refine bA ?_ _)); refine blk_put (cs := #[.bool t163, .int .u8 t164, .int .u16 t165, .int .u32 t166, .int .u64 t167, .string (⟨#[]⟩ : ByteArray), .string (⟨#[]⟩ : ByteArray), .string (⟨#[]⟩ : ByteArray)]) ?_ 5 _ rfl; (with_reducible repeat (first | refine bN ?_ _ | refine bD ?_ | refine bA ?_ _)); refine blk_put (cs := #[.bool t163, .int .u8 t164, .int .u16 t165, .int .u32 t166, .int .u64 0, .string (⟨#[]⟩ : ByteArray), .string (⟨#[]⟩ : ByteArray), .string (⟨#[]⟩ : ByteArray)]) ?_ 4 _ rfl; (with_reducible repeat (first | refine bN ?_ _ | refine bD ?_ | refine bA ?_ _)); refine blk_put (cs := #[.bool t163, .int .u8 t164, .int .u16 t165, .int .u32 0, .int .u64 0, .string (⟨#[]⟩ : ByteArray), .string (⟨#[]⟩ : ByteArray), .string (⟨#[]⟩ : ByteArray)]) ?_ 3 _ rfl; (with_reducible repeat (first | refine bN ?_ _ | refine bD ?_ | refine bA ?_ _)); refine blk_put (cs := #[.bool t163, .int .u8 t164, .int .u16 0, .int .u32 0, .int .u64 0, .string (⟨#[]⟩ : ByteArray), .string (⟨#[]⟩ : ByteArray), .string (⟨#[]⟩ : ByteArray)]) ?_ 2 _ rfl; (with_reducible repeat (first | refine bN ?_ _ | refine bD ?_ | refine bA ?_ _)); refine blk_put (cs := #[.bool t163, .int .u8 0, .int .u16 0, .int .u32 0, .int .u64 0, .string (⟨#[]⟩ : ByteArray), .string (⟨#[]⟩ : ByteArray), .string (⟨#[]⟩ : ByteArray)]) ?_ 1 _ rfl; (with_reducible repeat (first | refine bN ?_ _ | refine bD ?_ | refine bA ?_ _)); refine blk_put (cs := #[.bool false, .int .u8 0, .int .u16 0, .int .u32 0, .int .u64 0, .string (⟨#[]⟩ : ByteArray), .string (⟨#[]⟩ : ByteArray), .string (⟨#[]⟩ : ByteArray)]) ?_ 0 _ rfl; (with_reducible repeat (first | refine bN ?_ _ | refine bD ?_ | refine bA ?_ _)); exact BK173.out⟩
        have n3_ : Aside0 (Below w.heap.size w ((((((((w32.setCell ⟨gb173, 0, none⟩ (.bool t163)).setCell ⟨gb173, 1, none⟩ (.int .u8 t164)).setCell ⟨gb173, 2, none⟩ (.int .u16 t165)).setCell ⟨gb173, 3, none⟩ (.int .u32 t166)).setCell ⟨gb173, 4, none⟩ (.int .u64 t167)).setCell ⟨gb173, 5, none⟩ (.string t168)).setCell ⟨gb173, 6, none⟩ (.string t169)).setCell ⟨gb173, 7, none⟩ (.string t170))) := ⟨by repeat (first | (with_reducible first | exact HB.out | apply eA | apply eN | apply eD | refine eS ?_ GE138.out | refine eS ?_ GE162.out | refine eS ?_ GE173.out) | exact HB.out)⟩
        (try clear BK138)
        (try clear BK162)
        (try clear BK173)
        (try clear HB)
        generalize ((((((((w32.setCell ⟨gb173, 0, none⟩ (.bool t163)).setCell ⟨gb173, 1, none⟩ (.int .u8 t164)).setCell ⟨gb173, 2, none⟩ (.int .u16 t165)).setCell ⟨gb173, 3, none⟩ (.int .u32 t166)).setCell ⟨gb173, 4, none⟩ (.int .u64 t167)).setCell ⟨gb173, 5, none⟩ (.string t168)).setCell ⟨gb173, 6, none⟩ (.string t169)).setCell ⟨gb173, 7, none⟩ (.string t170)) = w36 at n0_ n1_ n2_ n3_ ⊢; have BK138 := n0_; have BK162 := n1_; have BK173 := n2_; have HB := n3_; clear n0_ n1_ n2_ n3_; have n0_ := Aside0.mk (bD BK138.out); have n1_ := Aside0.mk (bD BK162.out); have n2_ := Aside0.mk (bD BK173.out); have n3_ := Aside0.mk (eD HB.out); clear BK138; clear BK162; clear BK173; clear HB; have BK138 := n0_; have BK162 := n1_; have BK173 := n2_; have HB := n3_; clear n0_ n1_ n2_ n3_; refine start_ (n := 25) (S := fun w' => w'.cell? ⟨gb162, 0, none⟩ = some (.bool t152) ∧ w'.cell? ⟨gb162, 1, none⟩ = some (.int .u8 t153) ∧ w'.cell? ⟨gb162, 2, none⟩ = some (.int .u16 t154) ∧ w'.cell? ⟨gb162, 3, none⟩ = some (.int .u32 t155) ∧ w'.cell? ⟨gb162, 4, none⟩ = some (.int .u64 t156) ∧ w'.cell? ⟨gb162, 5, none⟩ = some (.string t157) ∧ w'.cell? ⟨gb162, 6, none⟩ = some (.string t158) ∧ w'.cell? ⟨gb162, 7, none⟩ = some (.string t159) ∧ w'.cell? ⟨gb173, 0, none⟩ = some (.bool t163) ∧ w'.cell? ⟨gb173, 1, none⟩ = some (.int .u8 t164) ∧ w'.cell? ⟨gb173, 2, none⟩ = some (.int .u16 t165) ∧ w'.cell? ⟨gb173, 3, none⟩ = some (.int .u32 t166) ∧ w'.cell? ⟨gb173, 4, none⟩ = some (.int .u64 t167) ∧ w'.cell? ⟨gb173, 5, none⟩ = some (.string t168) ∧ w'.cell? ⟨gb173, 6, none⟩ = some (.string t169) ∧ w'.cell? ⟨gb173, 7, none⟩ = some (.string t170)) (ds := []) #[false, false, false, false, false, false, false, false, false, false, false, false, false, false, false, false, false, false, false, false, false, false, false, false, false] (by kernel_rfl) rfl rfl ⟨(blk_cell BK162.out 0).trans rfl, (blk_cell BK162.out 1).trans rfl, (blk_cell BK162.out 2).trans rfl, (blk_cell BK162.out 3).trans rfl, (blk_cell BK162.out 4).trans rfl, (blk_cell BK162.out 5).trans rfl, (blk_cell BK162.out 6).trans rfl, (blk_cell BK162.out 7).trans rfl, (blk_cell BK173.out 0).trans rfl, (blk_cell BK173.out 1).trans rfl, (blk_cell BK173.out 2).trans rfl, (blk_cell BK173.out 3).trans rfl, (blk_cell BK173.out 4).trans rfl, (blk_cell BK173.out 5).trans rfl, (blk_cell BK173.out 6).trans rfl, (blk_cell BK173.out 7).trans rfl⟩ (fun hHeld => ?_); refine with_tabW tallboylaw29_FramePacks.tab7 tallboylaw29_FramePacks.bits7 (fun HT_ HW_ => ?_)
        generalize w36.drew = w37 at BK138 BK162 BK173 HB hHeld ⊢; refine pure_ (i := 0) (N := some 45) (v := ?_) (a' := ?_) #[true, false, false, false, false, false, false, false, false, false, false, false, false, false, false, false, false, false, false, false, false, false, false, false, false] rfl rfl (any_of HT_.out (by kernel_rfl)) (fun _ _ _ h => h) (Or.inl ⟨by rfl, ?_⟩) ?_ ?_
        rotate_left
        ·intro w'
         go_simp
         with_reducible rfl
        rotate_left
        ·simp only [Act.put, sA, sB, sC, i64_w, i32_w]
         rfl
        refine pure_ (i := 1) (N := some 46) (v := ?_) (a' := ?_) #[true, true, false, false, false, false, false, false, false, false, false, false, false, false, false, false, false, false, false, false, false, false, false, false, false] rfl rfl (any_of HT_.out (by kernel_rfl)) (fun _ _ _ h => h) (Or.inl ⟨by rfl, ?_⟩) ?_ ?_
        rotate_left
        ·intro w'
         go_simp
         with_reducible rfl
        rotate_left
        ·simp only [Act.put, sA, sB, sC, i64_w, i32_w]
         rfl
        refine pure_ (i := 2) (N := some 47) (v := ?_) (a' := ?_) #[true, true, true, false, false, false, false, false, false, false, false, false, false, false, false, false, false, false, false, false, false, false, false, false, false] rfl rfl (any_of HT_.out (by kernel_rfl)) (fun _ _ _ h => h) (Or.inl ⟨by rfl, ?_⟩) ?_ ?_
        rotate_left
        ·intro w'
         go_simp
         with_reducible rfl
        rotate_left
        ·simp only [Act.put, sA, sB, sC, i64_w, i32_w]
         rfl
        refine pure_ (i := 3) (N := some 48) (v := ?_) (a' := ?_) #[true, true, true, true, false, false, false, false, false, false, false, false, false, false, false, false, false, false, false, false, false, false, false, false, false] rfl rfl (any_of HT_.out (by kernel_rfl)) (fun _ _ _ h => h) (Or.inl ⟨by rfl, ?_⟩) ?_ ?_
        rotate_left
        ·intro w'
         go_simp
         with_reducible rfl
        rotate_left
        ·simp only [Act.put, sA, sB, sC, i64_w, i32_w]
         rfl
        refine pure_ (i := 4) (N := some 49) (v := ?_) (a' := ?_) #[true, true, true, true, true, false, false, false, false, false, false, false, false, false, false, false, false, false, false, false, false, false, false, false, false] rfl rfl (any_of HT_.out (by kernel_rfl)) (fun _ _ _ h => h) (Or.inl ⟨by rfl, ?_⟩) ?_ ?_
        rotate_left
        ·intro w'
         go_simp
         with_reducible rfl
        rotate_left
        ·simp only [Act.put, sA, sB, sC, i64_w, i32_w]
         rfl
        refine pure_ (i := 5) (N := some 50) (v := ?_) (a' := ?_) #[true, true, true, true, true, true, false, false, false, false, false, false, false, false, false, false, false, false, false, false, false, false, false, false, false] rfl rfl (any_of HT_.out (by kernel_rfl)) (fun _ _ _ h => h) (Or.inl ⟨by rfl, ?_⟩) ?_ ?_
        rotate_left
        ·intro w'
         go_simp
         with_reducible rfl
        rotate_left
        ·simp only [Act.put, sA, sB, sC, i64_w, i32_w]
         rfl
        refine pure_ (i := 6) (N := some 51) (v := ?_) (a' := ?_) #[true, true, true, true, true, true, true, false, false, false, false, false, false, false, false, false, false, false, false, false, false, false, false, false, false] rfl rfl (any_of HT_.out (by kernel_rfl)) (fun _ _ _ h => h) (Or.inl ⟨by rfl, ?_⟩) ?_ ?_
        rotate_left
        ·intro w'
         go_simp
         with_reducible rfl
        rotate_left
        ·simp only [Act.put, sA, sB, sC, i64_w, i32_w]
         rfl
        refine pure_ (i := 7) (N := some 52) (v := ?_) (a' := ?_) #[true, true, true, true, true, true, true, true, false, false, false, false, false, false, false, false, false, false, false, false, false, false, false, false, false] rfl rfl (any_of HT_.out (by kernel_rfl)) (fun _ _ _ h => h) (Or.inl ⟨by rfl, ?_⟩) ?_ ?_
        rotate_left
        ·intro w'
         go_simp
         with_reducible rfl
        rotate_left
        ·simp only [Act.put, sA, sB, sC, i64_w, i32_w]
         rfl
        refine pure_ (i := 8) (N := some 53) (v := ?_) (a' := ?_) #[true, true, true, true, true, true, true, true, true, false, false, false, false, false, false, false, false, false, false, false, false, false, false, false, false] rfl rfl (any_of HT_.out (by kernel_rfl)) (fun _ _ _ h => h) (Or.inl ⟨by rfl, ?_⟩) ?_ ?_
        rotate_left
        ·intro w'
         go_simp
         with_reducible rfl
        rotate_left
        ·simp only [Act.put, sA, sB, sC, i64_w, i32_w]
         rfl
        refine take_ (i := 9) (N := some 54) (v := ?_) (a' := ?_) #[true, true, true, true, true, true, true, true, true, true, false, false, false, false, false, false, false, false, false, false, false, false, false, false, false] rfl rfl (take_ofW HT_.out HW_.out (by kernel_rfl)) (fun _ _ _ h => h) (Or.inl ⟨by rfl, ?_⟩) hHeld ?_ ?_
        rotate_left
        ·rintro w' ⟨s0, s1, s2, s3, s4, s5, s6, s7, s8, s9, s10, s11, s12, s13, s14, s15⟩
         go_simp
         with_reducible rfl
        rotate_left
        ·simp only [Act.put, sA, sB, sC, i64_w, i32_w]
         rfl
        refine take_ (i := 11) (N := some 56) (v := ?_) (a' := ?_) #[true, true, true, true, true, true, true, true, true, true, false, true, false, false, false, false, false, false, false, false, false, false, false, false, false] rfl rfl (take_ofW HT_.out HW_.out (by kernel_rfl)) (fun _ _ _ h => h) (Or.inl ⟨by rfl, ?_⟩) hHeld ?_ ?_
        rotate_left
        ·rintro w' ⟨s0, s1, s2, s3, s4, s5, s6, s7, s8, s9, s10, s11, s12, s13, s14, s15⟩
         go_simp
         with_reducible rfl
        rotate_left
        ·simp only [Act.put, sA, sB, sC, i64_w, i32_w]
         rfl
        refine one_ (i := 10) (N := some 55) #[true, true, true, true, true, true, true, true, true, true, true, true, false, false, false, false, false, false, false, false, false, false, false, false, false] rfl rfl (one_of HT_.out (by kernel_rfl)) (by decide) (fun K hK => ?_)
        refine goes_ Try.func17 (by kernel_rfl) rfl #[.agg #[.bool t152, .int .u8 t153, .int .u16 t154, .int .u32 t155, .int .u64 t156, .string t157, .string t158, .string t159]] (by rfl) rfl rfl (by (try simp only [List.map_toArray, List.map_cons, List.map_nil]); first | done | rfl | (simp only [List.length_drop, List.length_take]; rfl)) ?_
        with_reducible refine (tallboylaw29_From.calls t152 t153 t154 t155 t156 t157 t158 t159 t174 t175 t176 t177 t178 t179 t180 t181 _ A19.out).mono ?_
        rintro e w38 ⟨rfl, hb⟩
        refine ⟨_, rfl, ?_⟩
        have n0_ := Aside0.mk (blk_below (g := gb138) (o := .cells #[.bool a0_0, .int .u8 a0_1, .int .u16 a0_2, .int .u32 a0_3, .int .u64 a0_4, .string a0_5, .string a0_6, .string a0_7] 26 (0, 0)) (by (with_reducible repeat (first | refine bN ?_ _ | refine bD ?_ | refine bA ?_ _)); exact BK138.out) hb); have n1_ := Aside0.mk (blk_below (g := gb162) (o := .cells #[.bool t152, .int .u8 t153, .int .u16 t154, .int .u32 t155, .int .u64 t156, .string t157, .string t158, .string t159] 31 (0, 0)) (by (with_reducible repeat (first | refine bN ?_ _ | refine bD ?_ | refine bA ?_ _)); exact BK162.out) hb); have n2_ := Aside0.mk (blk_below (g := gb173) (o := .cells #[.bool t163, .int .u8 t164, .int .u16 t165, .int .u32 t166, .int .u64 t167, .string t168, .string t169, .string t170] 26 (0, 0)) (by (with_reducible repeat (first | refine bN ?_ _ | refine bD ?_ | refine bA ?_ _)); exact BK173.out) hb); have n3_ := Aside0.mk (below_step (by repeat (first | (with_reducible first | exact HB.out | apply eA | apply eN | apply eD | refine eS ?_ GE138.out | refine eS ?_ GE162.out | refine eS ?_ GE173.out) | exact HB.out)) hb); clear BK138; clear BK162; clear BK173; clear HB; have BK138 := n0_; have BK162 := n1_; have BK173 := n2_; have HB := n3_; clear n0_ n1_ n2_ n3_
        (try clear hb)
        (try clear hb2)
        (try clear hk)
        (try clear hi)
        refine hK.out _ _ ⟨(blk_cell BK162.out 0).trans rfl, (blk_cell BK162.out 1).trans rfl, (blk_cell BK162.out 2).trans rfl, (blk_cell BK162.out 3).trans rfl, (blk_cell BK162.out 4).trans rfl, (blk_cell BK162.out 5).trans rfl, (blk_cell BK162.out 6).trans rfl, (blk_cell BK162.out 7).trans rfl, (blk_cell BK173.out 0).trans rfl, (blk_cell BK173.out 1).trans rfl, (blk_cell BK173.out 2).trans rfl, (blk_cell BK173.out 3).trans rfl, (blk_cell BK173.out 4).trans rfl, (blk_cell BK173.out 5).trans rfl, (blk_cell BK173.out 6).trans rfl, (blk_cell BK173.out 7).trans rfl⟩ (fun hHeld => ?_)
        clear hK K; refine norm_ (a' := ?_) ?_ ?_
        rotate_left
        ·show Act.put _ (some 55) _ = _
         simp only [Act.put, sA, sB, sC, i64_w, i32_w]
         rfl
        refine pure_ (i := 12) (N := some 57) (v := ?_) (a' := ?_) #[true, true, true, true, true, true, true, true, true, true, true, true, true, false, false, false, false, false, false, false, false, false, false, false, false] rfl rfl (any_of HT_.out (by kernel_rfl)) (fun _ _ _ h => h) (Or.inl ⟨by rfl, ?_⟩) ?_ ?_
        rotate_left
        ·intro w'
         go_simp
         with_reducible rfl
        rotate_left
        ·simp only [Act.put, sA, sB, sC, i64_w, i32_w]
         rfl
        refine pure_ (i := 13) (N := some 58) (v := ?_) (a' := ?_) #[true, true, true, true, true, true, true, true, true, true, true, true, true, true, false, false, false, false, false, false, false, false, false, false, false] rfl rfl (any_of HT_.out (by kernel_rfl)) (fun _ _ _ h => h) (Or.inl ⟨by rfl, ?_⟩) ?_ ?_
        rotate_left
        ·intro w'
         go_simp
         with_reducible rfl
        rotate_left
        ·simp only [Act.put, sA, sB, sC, i64_w, i32_w]
         rfl
        refine pure_ (i := 14) (N := some 59) (v := ?_) (a' := ?_) #[true, true, true, true, true, true, true, true, true, true, true, true, true, true, true, false, false, false, false, false, false, false, false, false, false] rfl rfl (any_of HT_.out (by kernel_rfl)) (fun _ _ _ h => h) (Or.inl ⟨by rfl, ?_⟩) ?_ ?_
        rotate_left
        ·intro w'
         go_simp
         with_reducible rfl
        rotate_left
        ·simp only [Act.put, sA, sB, sC, i64_w, i32_w]
         rfl
        refine pure_ (i := 15) (N := some 60) (v := ?_) (a' := ?_) #[true, true, true, true, true, true, true, true, true, true, true, true, true, true, true, true, false, false, false, false, false, false, false, false, false] rfl rfl (any_of HT_.out (by kernel_rfl)) (fun _ _ _ h => h) (Or.inl ⟨by rfl, ?_⟩) ?_ ?_
        rotate_left
        ·intro w'
         go_simp
         with_reducible rfl
        rotate_left
        ·simp only [Act.put, sA, sB, sC, i64_w, i32_w]
         rfl
        refine pure_ (i := 16) (N := some 61) (v := ?_) (a' := ?_) #[true, true, true, true, true, true, true, true, true, true, true, true, true, true, true, true, true, false, false, false, false, false, false, false, false] rfl rfl (any_of HT_.out (by kernel_rfl)) (fun _ _ _ h => h) (Or.inl ⟨by rfl, ?_⟩) ?_ ?_
        rotate_left
        ·intro w'
         go_simp
         with_reducible rfl
        rotate_left
        ·simp only [Act.put, sA, sB, sC, i64_w, i32_w]
         rfl
        refine pure_ (i := 17) (N := some 62) (v := ?_) (a' := ?_) #[true, true, true, true, true, true, true, true, true, true, true, true, true, true, true, true, true, true, false, false, false, false, false, false, false] rfl rfl (any_of HT_.out (by kernel_rfl)) (fun _ _ _ h => h) (Or.inl ⟨by rfl, ?_⟩) ?_ ?_
        rotate_left
        ·intro w'
         go_simp
         with_reducible rfl
        rotate_left
        ·simp only [Act.put, sA, sB, sC, i64_w, i32_w]
         rfl
        refine pure_ (i := 18) (N := some 63) (v := ?_) (a' := ?_) #[true, true, true, true, true, true, true, true, true, true, true, true, true, true, true, true, true, true, true, false, false, false, false, false, false] rfl rfl (any_of HT_.out (by kernel_rfl)) (fun _ _ _ h => h) (Or.inl ⟨by rfl, ?_⟩) ?_ ?_
        rotate_left
        ·intro w'
         go_simp
         with_reducible rfl
        rotate_left
        ·simp only [Act.put, sA, sB, sC, i64_w, i32_w]
         rfl
        refine pure_ (i := 19) (N := some 64) (v := ?_) (a' := ?_) #[true, true, true, true, true, true, true, true, true, true, true, true, true, true, true, true, true, true, true, true, false, false, false, false, false] rfl rfl (any_of HT_.out (by kernel_rfl)) (fun _ _ _ h => h) (Or.inl ⟨by rfl, ?_⟩) ?_ ?_
        rotate_left
        ·intro w'
         go_simp
         with_reducible rfl
        rotate_left
        ·simp only [Act.put, sA, sB, sC, i64_w, i32_w]
         rfl
        refine pure_ (i := 20) (N := some 65) (v := ?_) (a' := ?_) #[true, true, true, true, true, true, true, true, true, true, true, true, true, true, true, true, true, true, true, true, true, false, false, false, false] rfl rfl (any_of HT_.out (by kernel_rfl)) (fun _ _ _ h => h) (Or.inl ⟨by rfl, ?_⟩) ?_ ?_
        rotate_left
        ·intro w'
         go_simp
         with_reducible rfl
        rotate_left
        ·simp only [Act.put, sA, sB, sC, i64_w, i32_w]
         rfl
        refine pure_ (i := 21) (N := some 66) (v := ?_) (a' := ?_) #[true, true, true, true, true, true, true, true, true, true, true, true, true, true, true, true, true, true, true, true, true, true, false, false, false] rfl rfl (any_of HT_.out (by kernel_rfl)) (fun _ _ _ h => h) (Or.inl ⟨by rfl, ?_⟩) ?_ ?_
        rotate_left
        ·intro w'
         go_simp
         with_reducible rfl
        rotate_left
        ·simp only [Act.put, sA, sB, sC, i64_w, i32_w]
         rfl
        refine pure_ (i := 22) (N := some 67) (v := ?_) (a' := ?_) #[true, true, true, true, true, true, true, true, true, true, true, true, true, true, true, true, true, true, true, true, true, true, true, false, false] rfl rfl (any_of HT_.out (by kernel_rfl)) (fun _ _ _ h => h) (Or.inl ⟨by rfl, ?_⟩) ?_ ?_
        rotate_left
        ·intro w'
         go_simp
         with_reducible rfl
        rotate_left
        ·simp only [Act.put, sA, sB, sC, i64_w, i32_w]
         rfl
        refine pure_ (i := 23) (N := some 68) (v := ?_) (a' := ?_) #[true, true, true, true, true, true, true, true, true, true, true, true, true, true, true, true, true, true, true, true, true, true, true, true, false] rfl rfl (any_of HT_.out (by kernel_rfl)) (fun _ _ _ h => h) (Or.inl ⟨by rfl, ?_⟩) ?_ ?_
        rotate_left
        ·intro w'
         go_simp
         with_reducible rfl
        rotate_left
        ·simp only [Act.put, sA, sB, sC, i64_w, i32_w]
         rfl
        refine pure_ (i := 24) (N := some 4) (v := ?_) (a' := ?_) #[true, true, true, true, true, true, true, true, true, true, true, true, true, true, true, true, true, true, true, true, true, true, true, true, true] rfl rfl (any_of HT_.out (by kernel_rfl)) (fun _ _ _ h => h) (Or.inl ⟨by rfl, ?_⟩) ?_ ?_
        rotate_left
        ·intro w'
         go_simp
         with_reducible rfl
        rotate_left
        ·simp only [Act.put, sA, sB, sC, i64_w, i32_w]
         rfl
        refine done_ (done_of HT_.out (by kernel_rfl)) ?_
        try go_wp2
        go_ret
        exact ⟨by first | rfl | (simp [errW_none, errW_some] <;> rfl) | (simp [*, errW_none, errW_some] <;> rfl), by repeat (first | (with_reducible first | exact HB.out | apply eA | apply eN | apply eD | refine eS ?_ GE138.out | refine eS ?_ GE162.out | refine eS ?_ GE173.out) | exact HB.out)⟩
       ·rw [if_neg c21] at H; have c21b0 : (t160 == t171) = false := beq_eq_false_iff_ne.mpr c21; have c21b1 : (t160 != t171) = true := bne_iff_ne.mpr c21; exact absurd H (by simp)
      ·rw [if_neg c20] at H; have c20b0 : (t174 == t163 && (t175 == t164 && (t176 == t165 && (t177 == t166 && (t178 == t167 && (t179.toList == t168.toList && (t180.toList == t169.toList && (t181.toList == t170.toList)))))))) = false := by simpa using c20
       (try (have c20b1 : decide (t174 = t163 && (t175 == t164 && (t176 == t165 && (t177 == t166 && (t178 == t167 && (t179.toList == t168.toList && (t180.toList == t169.toList && (t181.toList == t170.toList)))))))) = false := by simpa using c20))
       (try (have c20b2 : (t174 == t163 && (t175 == t164 && (t176 == t165 && (t177 == t166 && (t178 == t167 && (t179.toList == t168.toList && (t180.toList == t169.toList && (t181.toList == t170.toList)))))))) = false := by simpa using c20))
       (try (have c20b3 : ¬ (t174 = t163 && (t175 == t164 && (t176 == t165 && (t177 == t166 && (t178 == t167 && (t179.toList == t168.toList && (t180.toList == t169.toList && (t181.toList == t170.toList)))))))) := by simpa using c20))
       clear c20; exact absurd H (by simp)
     ·rw [if_neg c18] at H; have c18b0 : (t149 == t151) = false := beq_eq_false_iff_ne.mpr c18; have c18b1 : (t149 != t151) = true := bne_iff_ne.mpr c18; exact absurd H (by simp)
    ·rw [if_neg c17] at H; have c17b0 : (t148.toList == t150.toList) = false := beq_eq_false_iff_ne.mpr c17; have c17b1 : (t148.toList != t150.toList) = true := bne_iff_ne.mpr c17; exact absurd H (by simp)

end Go.Proofs.Ytdepkgikdmlgiaa.P
