/- Lean functions for the Go functions that the laws of this seat use, and the proofs that the Go code computes them; conditions: the readings that each theorem names. Written by a program. -/
import Derived.Test.YtbfgopinbpbddaaDoorPx0
import Derived.Test.YtbfgopinbpbddaaDoorPx1
import Derived.Test.YtbfgopinbpbddaaDoorPx3
import Derived.Test.YtbfgopinbpbddaaDoorPx4
import Derived.Test.YtbfgopinbpbddaaDoorPx7
import Derived.Test.YtbfgopinbpbddaaDoorPx9
import Derived.Test.YtbfgopinbpbddaaDoorPx11
import Derived.Test.YtbfgopinbpbddaaDoorPx12
import Derived.Test.YtbfgopinbpbddaaDoorShort
namespace Go.Proofs.YtbfgopinbpbddaaDoor.P
open Go.RowKit Go.Proofs.YtbfgopinbpbddaaDoorW.PrintWords Go.Proofs.YtbfgopinbpbddaaDoorW.PrintLast Go.Proofs.YtbfgopinbpbddaaDoorW.PrintMore
set_option linter.unusedVariables false
set_option linter.unusedSimpArgs false

/-! ### line_Write: function 9 -/
mutual
def line_Write.j0 : Nat → List ByteArray → Int → List ByteArray → Int → Int → ByteArray → Int → Int → Bool → Option (ByteArray × Int)
 | 0, _, _, _, _, _, _, _, _, _ => none
 | k + 1, x5, z0, z1, z3, z2, z4, z5, z6, z7 => if x5.length + z1.length < 8796093022208 then ((some (x5 ++ z1 : List ByteArray)).bind fun y128 => ((verb_Stores.f z0).bind fun t131 => (if t131 = true then ((digits_Text.f (IntKind.u64.wrap (z3))).bind fun t132 => ((digits_TextSigned.f z2).bind fun t133 => ((digits_Text.f (IntKind.u64.wrap ((z4.size : Int)))).bind fun t134 => ((some (([t132, t133, t134] : List ByteArray) : List ByteArray)).bind fun y135 => (if y128.length + y135.length < 8796093022208 then (line_Write.j1 k (y128 ++ y135) z0 z1 z3 z2 z4 z5 z6 z7) else (none)))))) else (line_Write.j1 k y128 z0 z1 z3 z2 z4 z5 z6 z7)))) else (none)
def line_Write.j1 : Nat → List ByteArray → Int → List ByteArray → Int → Int → ByteArray → Int → Int → Bool → Option (ByteArray × Int)
 | 0, _, _, _, _, _, _, _, _, _ => none
 | k + 1, x5, z0, z1, z3, z2, z4, z5, z6, z7 => if z0 = 10 then ((digits_Text.f z5).bind fun t141 => (if x5.length < 8796093022208 then (line_Write.j3 k (x5 ++ [t141]) z0 z1 z3 z2 z4 z5 z6 z7) else (none))) else (if z0 = 14 then ((digits_TextSigned.f z2).bind fun t145 => (if x5.length < 8796093022208 then (line_Write.j3 k (x5 ++ [t145]) z0 z1 z3 z2 z4 z5 z6 z7) else (none))) else (if z0 = 12 then (line_Write.j2 k x5 (z0 == 12) z0 z1 z3 z2 z4 z5 z6 z7) else (line_Write.j2 k x5 (z0 == 13) z0 z1 z3 z2 z4 z5 z6 z7)))
def line_Write.j3 : Nat → List ByteArray → Int → List ByteArray → Int → Int → ByteArray → Int → Int → Bool → Option (ByteArray × Int)
 | 0, _, _, _, _, _, _, _, _, _ => none
 | k + 1, x5, z0, z1, z3, z2, z4, z5, z6, z7 => if z7 = true then (if x5.length < 8796093022208 then (line_Write.j4 k (x5 ++ [(⟨#[110, 111, 114, 101, 112, 108, 121]⟩ : ByteArray)])) else (none)) else (line_Write.j4 k x5)
def line_Write.j4 : Nat → List ByteArray → Option (ByteArray × Int)
 | 0, _ => none
 | k + 1, x5 => (strings_Join.f x5 (⟨#[32]⟩ : ByteArray)).bind fun t156 => (if (t156.size : Int) > 160 then (some ((⟨#[]⟩ : ByteArray), 7)) else (some (t156, 0)))
def line_Write.j2 : Nat → List ByteArray → Bool → Int → List ByteArray → Int → Int → ByteArray → Int → Int → Bool → Option (ByteArray × Int)
 | 0, _, _, _, _, _, _, _, _, _, _ => none
 | k + 1, x5, x65, z0, z1, z3, z2, z4, z5, z6, z7 => if x65 = true then ((digits_Text.f z6).bind fun t149 => (if x5.length < 8796093022208 then (line_Write.j3 k (x5 ++ [t149]) z0 z1 z3 z2 z4 z5 z6 z7) else (none))) else (line_Write.j3 k x5 z0 z1 z3 z2 z4 z5 z6 z7)
end
def line_Write.f (k : Nat) (a0_0 : Int) (l0_1 : List ByteArray) (a0_2 : Int) (a0_3 : Int) (a0_4 : ByteArray) (a0_5 : Int) (a0_6 : Int) (a0_7 : Bool) : Option (ByteArray × Int) := (verb_Check.f k a0_0 l0_1 a0_2 a0_3 a0_4 a0_5 a0_6 a0_7).bind fun t118 => (if t118 = 0 then ((verb_Name.f a0_0).bind fun t119 => ((some (([t119] : List ByteArray) : List ByteArray)).bind fun y120 => ((line_timed.f a0_0).bind fun t123 => (if t123 = true then ((digits_TextSigned.f a0_3).bind fun t124 => (if y120.length < 8796093022208 then (line_Write.j0 k (y120 ++ [t124]) a0_0 l0_1 a0_2 a0_3 a0_4 a0_5 a0_6 a0_7) else (none))) else (line_Write.j0 k y120 a0_0 l0_1 a0_2 a0_3 a0_4 a0_5 a0_6 a0_7))))) else (some ((⟨#[]⟩ : ByteArray), t118)))
theorem line_Write.mono_l : ∀ k, (∀ y0 y1 y2 y3 y4 y5 y6 y7 y8, LeO (line_Write.j0 k y0 y1 y2 y3 y4 y5 y6 y7 y8) (line_Write.j0 (k + 1) y0 y1 y2 y3 y4 y5 y6 y7 y8)) ∧ (∀ y0 y1 y2 y3 y4 y5 y6 y7 y8, LeO (line_Write.j1 k y0 y1 y2 y3 y4 y5 y6 y7 y8) (line_Write.j1 (k + 1) y0 y1 y2 y3 y4 y5 y6 y7 y8)) ∧ (∀ y0 y1 y2 y3 y4 y5 y6 y7 y8, LeO (line_Write.j3 k y0 y1 y2 y3 y4 y5 y6 y7 y8) (line_Write.j3 (k + 1) y0 y1 y2 y3 y4 y5 y6 y7 y8)) ∧ (∀ y0, LeO (line_Write.j4 k y0) (line_Write.j4 (k + 1) y0)) ∧ (∀ y0 y1 y2 y3 y4 y5 y6 y7 y8 y9, LeO (line_Write.j2 k y0 y1 y2 y3 y4 y5 y6 y7 y8 y9) (line_Write.j2 (k + 1) y0 y1 y2 y3 y4 y5 y6 y7 y8 y9))
 | 0 => ⟨fun _ _ _ _ _ _ _ _ _ r h => by simp [line_Write.j0] at h, fun _ _ _ _ _ _ _ _ _ r h => by simp [line_Write.j1] at h, fun _ _ _ _ _ _ _ _ _ r h => by simp [line_Write.j3] at h, fun _ r h => by simp [line_Write.j4] at h, fun _ _ _ _ _ _ _ _ _ _ r h => by simp [line_Write.j2] at h⟩
 | k + 1 => by
  obtain ⟨ih0, ih1, ih2, ih3, ih4⟩ := line_Write.mono_l k; refine ⟨?_, ?_, ?_, ?_, ?_⟩
  all_goals intros
  all_goals (first | unfold line_Write.j0 | unfold line_Write.j1 | unfold line_Write.j3 | unfold line_Write.j4 | unfold line_Write.j2)
  all_goals repeat' first | (with_reducible first | apply ih0 | apply ih1 | apply ih2 | apply ih3 | apply ih4 | apply verb_Check.mono | exact LeO.refl _ | exact LeO.none _ | refine LeO.ite ?_ ?_ | refine LeO.bind ?_ (fun _ => ?_)) | apply ih0 | apply ih1 | apply ih2 | apply ih3 | apply ih4 | apply verb_Check.mono | exact LeO.none _ | refine LeO.ite ?_ ?_ | refine LeO.bind ?_ (fun _ => ?_)
theorem line_Write.mono : ∀ a0 a1 a2 a3 a4 a5 a6 a7 k, LeO (line_Write.f k a0 a1 a2 a3 a4 a5 a6 a7) (line_Write.f (k + 1) a0 a1 a2 a3 a4 a5 a6 a7) := by
 intro a0 a1 a2 a3 a4 a5 a6 a7 k
 obtain ⟨ih0, ih1, ih2, ih3, ih4⟩ := line_Write.mono_l k; unfold line_Write.f
 repeat' first | (with_reducible first | apply ih0 | apply ih1 | apply ih2 | apply ih3 | apply ih4 | apply verb_Check.mono | exact LeO.refl _ | exact LeO.none _ | refine LeO.ite ?_ ?_ | refine LeO.bind ?_ (fun _ => ?_)) | apply ih0 | apply ih1 | apply ih2 | apply ih3 | apply ih4 | apply verb_Check.mono | exact LeO.none _ | refine LeO.ite ?_ ?_ | refine LeO.bind ?_ (fun _ => ?_)
def line_Write.T9 : Bool × List (List Nat × List Nat) := (true, [([], []), ([], []), ([1], [1]), ([2], [2]), ([3], [3]), ([], []), ([5], [5]), ([6, 4], [6]), ([], []), ([8], [8]), ([9], [9]), ([10], [10]), ([11, 7], [11]), ([4, 7, 12], [4, 7, 12]), ([0, 13, 12], [0, 13]), ([14, 14, 0, 1, 2, 3, 4, 5, 6, 7, 8, 9, 10, 11, 12, 13, 14], [0, 14])])
def line_Write.B9 : List Nat := [0, 0, 2, 6, 14, 0, 32, 126, 0, 256, 768, 1792, 4094, 8190, 16383, 32767]
theorem line_Write.tab9 : rtab .any (opsOf Tryd.f9 9) = line_Write.T9 := by kernel_rfl
theorem line_Write.bits9 : waitsOk line_Write.T9.2 line_Write.B9 = true := by kernel_rfl
set_option maxHeartbeats 8000000 in
set_option maxRecDepth 100000 in
theorem line_Write.calls (k : Nat) (a0_0 : Int) (A0_1 : Option Addr) (c0_1 : Nat) (l0_1 : List ByteArray) (a0_2 : Int) (a0_3 : Int) (a0_4 : ByteArray) (a0_5 : Int) (a0_6 : Int) (a0_7 : Bool) (r1 : ByteArray) (r2 : Int) (w : World) (hr0_1 : Kd.C Kd.string w A0_1 l0_1.length l0_1) (hc0_1 : l0_1.length ≤ c0_1) (h : line_Write.f k a0_0 l0_1 a0_2 a0_3 a0_4 a0_5 a0_6 a0_7 = some (r1, r2)) (hL : LdT w) :
  Calls Tryd.prog 9 #[.agg #[.int .i64 a0_0, .slice A0_1 l0_1.length c0_1, .int .u32 a0_2, .int .i64 a0_3, .string a0_4, .int .u64 a0_5, .int .u64 a0_6, .bool a0_7]] w fun e w' => e = .returned (.tuple #[.string r1, .int .i64 r2]) ∧ Below w.heap.size w w' := by
 have HL := Aside0.mk hL; clear hL; have hu26 := Tryd.underlying26; have HR0_1 := Aside0.mk hr0_1; have HC0_1 := Aside0.mk hc0_1; clear hr0_1 hc0_1; have HB := Aside0.mk (Below.refl w.heap.size w); have H : ((verb_Check.f k a0_0 l0_1 a0_2 a0_3 a0_4 a0_5 a0_6 a0_7).bind fun t118 => (if t118 = 0 then ((verb_Name.f a0_0).bind fun t119 => ((some (([t119] : List ByteArray) : List ByteArray)).bind fun y120 => ((line_timed.f a0_0).bind fun t123 => (if t123 = true then ((digits_TextSigned.f a0_3).bind fun t124 => (if y120.length < 8796093022208 then (line_Write.j0 k (y120 ++ [t124]) a0_0 l0_1 a0_2 a0_3 a0_4 a0_5 a0_6 a0_7) else (none))) else (line_Write.j0 k y120 a0_0 l0_1 a0_2 a0_3 a0_4 a0_5 a0_6 a0_7))))) else (some ((⟨#[]⟩ : ByteArray), t118)))) = some (r1, r2) := h; clear h; replace H := Option.bind_eq_some_iff.mp H; obtain ⟨t118, A20, H⟩ := H; (try dsimp only at H); have A2 := Aside0.mk A20; clear A20
 by_cases c3 : t118 = 0
 ·rw [if_pos c3] at H; have c3b0 : (t118 == 0) = true := beq_iff_eq.mpr c3; have c3b1 : (t118 != 0) = false := bne_eq_false_iff_eq.mpr c3; clear c3; replace H := Option.bind_eq_some_iff.mp H; obtain ⟨t119, A40, H⟩ := H; (try dsimp only at H); have A4 := Aside0.mk A40; clear A40; obtain ⟨y120, hy120⟩ : ∃ y_ : List ByteArray, y_ = (([t119] : List ByteArray)) := ⟨_, rfl⟩; replace H : ((line_timed.f a0_0).bind fun t123 => (if t123 = true then ((digits_TextSigned.f a0_3).bind fun t124 => (if y120.length < 8796093022208 then (line_Write.j0 k (y120 ++ [t124]) a0_0 l0_1 a0_2 a0_3 a0_4 a0_5 a0_6 a0_7) else (none))) else (line_Write.j0 k y120 a0_0 l0_1 a0_2 a0_3 a0_4 a0_5 a0_6 a0_7))) = some (r1, r2) := by first | (rw [hy120]; with_reducible exact H) | (have H2_ := (Option.bind_some _ _).symm.trans H; rw [hy120]; with_reducible exact H2_) | (have H2_ := (Option.bind_some _ _).symm.trans H; with_reducible exact H2_) | with_reducible exact H | (rw [hy120]; exact H) | exact H
  have Ny120 := Aside0.mk hy120; clear hy120; replace H := Option.bind_eq_some_iff.mp H; obtain ⟨t123, A50, H⟩ := H; (try dsimp only at H); have A5 := Aside0.mk A50; clear A50; have HC6 := Aside0.mk H; clear H; go_enter Tryd.func9, Tryd.ntmps9
  go_upto_if 18 with (first | ((with_reducible refine gate_dst (N := 1) rfl ?_); refine bE 1 #[.int .i64 a0_0, .slice A0_1 l0_1.length c0_1, .int .u32 a0_2, .int .i64 a0_3, .string a0_4, .int .u64 a0_5, .int .u64 a0_6, .bool a0_7] 26 rfl rfl ?_; intro gb117 hg w7 hbox hb; have BK117 := rM hbox; have GW117 := rG HB hg; replace HB := rS HB hb; have GE117 := GW117; clear hb hbox hg; obtain ⟨hcz8, hfz8⟩ := d8 BK117) | ((with_reducible refine gate_callee (f := 23) rfl ?_); refine goesL_ (some 8) rfl rfl Tryd.func23 (by kernel_rfl) rfl #[.agg #[.int .i64 a0_0, .slice A0_1 l0_1.length c0_1, .int .u32 a0_2, .int .i64 a0_3, .string a0_4, .int .u64 a0_5, .int .u64 a0_6, .bool a0_7]] rfl (by (try simp only [List.map_toArray, List.map_cons, List.map_nil]); first | done | rfl | (simp only [List.length_drop, List.length_take]; rfl)) ?_; (with_reducible refine (verb_Check.calls k a0_0 _ _ l0_1 a0_2 a0_3 a0_4 a0_5 a0_6 a0_7 t118 _ ?side1 ?side2 A2.out).mono ?_); (case side1 => repeat (first | exact (Kd.C_below HR0_1.out HB.out) | (with_reducible refine Kd.C_alloc ?_ _) | (with_reducible refine Kd.C_drewN ?_ _) | (with_reducible refine Kd.C_drew ?_))); (case side2 => exact HC0_1.out); rintro e w9 ⟨rfl, hb⟩; refine ⟨_, rfl, ?_⟩; replace BK117 := rB BK117 hb; replace HB := rS HB hb; (try clear hb); (try clear hk); obtain ⟨hcz10, hfz10⟩ := d8 BK117) | ((with_reducible refine gate_callee (f := 24) rfl ?_); refine goesL_ (some 14) rfl rfl Tryd.func24 (by kernel_rfl) rfl #[.int .i64 a0_0] rfl (by (try simp only [List.map_toArray, List.map_cons, List.map_nil]); first | done | rfl | (simp only [List.length_drop, List.length_take]; rfl)) ?_; (with_reducible refine (verb_Name.calls a0_0 t119 _ A4.out).mono ?_); rintro e w11 ⟨rfl, hb⟩; refine ⟨_, rfl, ?_⟩; replace BK117 := rB BK117 hb; replace HB := rS HB hb; (try clear hb); (try clear hk); ) | ((with_reducible refine gate_dst (N := 15) rfl ?_); refine Kd.R_lit Kd.string _ 9 ?hg (N := 15) ?hd (xs := ([t119] : List ByteArray)) (inner := [.string t119]) (ok := fun _ => True) (okp := fun _ => True) ?hr ?hp (fun _ hk => hk) trivial (Below.refl _ _) (Nat.le_refl _) (by simp) ?_; (case hd => rfl); (case hg => rfl); (case hr => first | (go_simp; done) | (go_simp; rfl)); (case hp => exact (Reps.one (show Kd.M Kd.string _ _ _ t119 [.string t119] from rfl) (Reps.none _ _))); intro v121 w12 ho13 hb hg_ hnew_; clear hg_ hnew_; (first | rw [← Ny120.out] at ho13 | (simp only [Int.reduceToNat] at ho13; rw [← Ny120.out] at ho13)); have HO122 := Aside0.mk (Kd.R_lower ho13 (below_size (bH HB.out))); replace BK117 := rB BK117 hb; replace HB := rS HB hb; clear hb ho13; obtain ⟨hcz14, hfz14⟩ := d8 BK117) | ((with_reducible refine gate_callee (f := 25) rfl ?_); refine goesL_ (some 18) rfl rfl Tryd.func25 (by kernel_rfl) rfl #[.int .i64 a0_0] rfl (by (try simp only [List.map_toArray, List.map_cons, List.map_nil]); first | done | rfl | (simp only [List.length_drop, List.length_take]; rfl)) ?_; (with_reducible refine (line_timed.calls a0_0 t123 _ A5.out).mono ?_); rintro e w' ⟨rfl, ⟨nd, rfl⟩⟩; refine ⟨_, rfl, ?_⟩))
  (try simp only [Act.put, sA, sB, sC])
  go_cut [5] (fun v5 wc => ∃ (kq : Nat) (x5_5 : List ByteArray), Aside0 (line_Write.j0 kq x5_5 a0_0 l0_1 a0_2 a0_3 a0_4 a0_5 a0_6 a0_7 = some (r1, r2)) ∧ Aside0 (kq ≤ k) ∧ Aside0 (Kd.R Kd.string 9 wc w.heap.size (fun _ => True) v5 x5_5) ∧ Aside0 (wc.heap[gb117]? = some (.cells #[.int .i64 a0_0, (.slice A0_1 l0_1.length c0_1), .int .u32 a0_2, .int .i64 a0_3, .string a0_4, .int .u64 a0_5, .int .u64 a0_6, .bool a0_7] 26 (0, 0))) ∧ Aside0 (Below w.heap.size w wc))
  case first =>
   have H := HC6.out; clear HC6
   by_cases c15 : t123 = true
   ·subst c15; rw [if_pos rfl] at H; replace H := Option.bind_eq_some_iff.mp H; obtain ⟨t124, A160, H⟩ := H; (try dsimp only at H); have A16 := Aside0.mk A160; clear A160
    by_cases c17 : y120.length < 8796093022208
    ·rw [if_pos c17] at H; have LMc17 := Aside0.mk c17; clear c17; obtain ⟨y125, hy125⟩ : ∃ y_ : List ByteArray, y_ = (y120 ++ [t124]) := ⟨_, rfl⟩; replace H : (line_Write.j0 k y125 a0_0 l0_1 a0_2 a0_3 a0_4 a0_5 a0_6 a0_7) = some (r1, r2) := by first | (rw [hy125]; with_reducible exact H) | (have H2_ := (Option.bind_some _ _).symm.trans H; rw [hy125]; with_reducible exact H2_) | (have H2_ := (Option.bind_some _ _).symm.trans H; with_reducible exact H2_) | with_reducible exact H | (rw [hy125]; exact H) | exact H
     have Ny125 := Aside0.mk hy125; clear hy125; have H' := Aside0.mk H; clear H; obtain ⟨hcz18, hfz18⟩ := d8 BK117
     go_wp2_with (first | ((with_reducible refine gate_callee (f := 26) rfl ?_); refine goesL_ (some 22) rfl rfl Tryd.func26 (by kernel_rfl) rfl #[.int .i64 a0_3] rfl (by (try simp only [List.map_toArray, List.map_cons, List.map_nil]); first | done | rfl | (simp only [List.length_drop, List.length_take]; rfl)) ?_; (with_reducible refine (digits_TextSigned.calls a0_3 t124 _ A16.out (by first | exact HL.out | exact LdT.on HL.out (bH HB.out))).mono ?_); rintro e w19 ⟨rfl, hb⟩; refine ⟨_, rfl, ?_⟩; replace HO122 := Aside0.mk (Kd.R_below (by (with_reducible repeat (first | apply Kd.R_alloc | apply Kd.R_drewN | apply Kd.R_drew)); exact HO122.out) hb); replace BK117 := rB BK117 hb; replace HB := rS HB hb; (try clear hb); (try clear hk); ) | ((with_reducible refine gate_builtin (b := .append) (xs := #[.tmp 19, .tmp 23]) rfl ?_); at_builtin; refine Kd.R_append Kd.string (w0 := w) w.heap.size rfl (.tmp 19) (.tmp 23) 22 9 (.string ⟨#[]⟩) 16 rfl Tryd.underlying22 info9 rfl (by decide) (by omega) v121 y120 t124 [.string t124] (fun _ => True) (fun _ => False) rfl rfl ?aP (fun _ hk => hk.elim) ?aF ?aO ?aB ?aS ?aL ?_; (case aP => exact rfl); (case aB => exact (bH HB.out)); (case aF => exact (fun _ _ => trivial)); (case aO => exact (by (with_reducible repeat (first | apply Kd.R_alloc | apply Kd.R_drewN | apply Kd.R_drew)); exact HO122.out)); (case aS => exact (below_size (bH HB.out))); (case aL => have := LMc17.out; omega); intro v126 w20 ho hb hg hat; rw [← Ny125.out] at ho; replace BK117 := Aside0.mk (blk_grown (g := gb117) (o := .cells #[.int .i64 a0_0, .slice A0_1 l0_1.length c0_1, .int .u32 a0_2, .int .i64 a0_3, .string a0_4, .int .u64 a0_5, .int .u64 a0_6, .bool a0_7] 26 (0, 0)) (bK BK117.out) hg (Kd.R_ne HO122.out BK117.out (by decide))); replace HB := Aside0.mk (hb); have HO127 := Aside0.mk (ho); clear HO122; clear ho hb hg hat))
     go_meet
     case rel => exact ⟨_, (y125), H', ⟨by first | omega | exact Nat.le_refl _⟩, ⟨by (with_reducible repeat (first | apply Kd.R_alloc | apply Kd.R_drewN | apply Kd.R_drew)); exact HO127.out⟩, ⟨bK BK117.out⟩, ⟨bH HB.out⟩⟩
    ·rw [if_neg c17] at H; exact absurd H (by simp)
   ·replace c15 := Bool.eq_false_iff.mpr c15; subst c15; rw [if_neg (show ¬ (false = true) by decide)] at H; have H' := Aside0.mk H; clear H; go_wp2
    go_meet
    case rel => exact ⟨_, (y120), H', ⟨by first | omega | exact Nat.le_refl _⟩, ⟨by (with_reducible repeat (first | apply Kd.R_alloc | apply Kd.R_drewN | apply Kd.R_drew)); exact HO122.out⟩, ⟨bK BK117.out⟩, ⟨bH HB.out⟩⟩
  case rest =>
   clear HC6; (try clear c3); (try clear c3b0); (try clear c3b1); (try clear c15); (try clear c17); (try clear hcz10); (try clear hcz14); (try clear hcz18); (try clear hcz8); (try clear hfz10); (try clear hfz14); (try clear hfz18); (try clear hfz8); obtain ⟨kq, x5_5, HA, HJ5, HO_5, BK117, HB⟩ := hcut; cases kq with
   | zero => exact absurd HA.out (by simp [line_Write.j0])
   | succ kj5 =>
    have H := HA.out; clear HA; simp only [line_Write.j0] at H
    by_cases c21 : x5_5.length + l0_1.length < 8796093022208
    ·rw [if_pos c21] at H; have LMc21 := Aside0.mk c21; clear c21; obtain ⟨y128, hy128⟩ : ∃ y_ : List ByteArray, y_ = (x5_5 ++ l0_1) := ⟨_, rfl⟩; replace H : ((verb_Stores.f a0_0).bind fun t131 => (if t131 = true then ((digits_Text.f (IntKind.u64.wrap (a0_2))).bind fun t132 => ((digits_TextSigned.f a0_3).bind fun t133 => ((digits_Text.f (IntKind.u64.wrap ((a0_4.size : Int)))).bind fun t134 => ((some (([t132, t133, t134] : List ByteArray) : List ByteArray)).bind fun y135 => (if y128.length + y135.length < 8796093022208 then (line_Write.j1 kj5 (y128 ++ y135) a0_0 l0_1 a0_2 a0_3 a0_4 a0_5 a0_6 a0_7) else (none)))))) else (line_Write.j1 kj5 y128 a0_0 l0_1 a0_2 a0_3 a0_4 a0_5 a0_6 a0_7))) = some (r1, r2) := by first | (rw [hy128]; with_reducible exact H) | (have H2_ := (Option.bind_some _ _).symm.trans H; rw [hy128]; with_reducible exact H2_) | (have H2_ := (Option.bind_some _ _).symm.trans H; with_reducible exact H2_) | with_reducible exact H | (rw [hy128]; exact H) | exact H
     have Ny128 := Aside0.mk hy128; clear hy128; replace H := Option.bind_eq_some_iff.mp H; obtain ⟨t131, A220, H⟩ := H; (try dsimp only at H); have A22 := Aside0.mk A220; clear A220; have HC23 := Aside0.mk H; clear H; obtain ⟨hcz24, hfz24⟩ := d8 BK117
     go_upto_if 31 with (first | ((with_reducible refine gate_builtin (b := .append) (xs := #[.tmp 25, .tmp 27]) rfl ?_); at_builtin; refine Kd.R_append_rows Kd.string (w0 := w) w.heap.size rfl (.tmp 25) (.tmp 27) 22 9 (.string ⟨#[]⟩) 16 rfl Tryd.underlying22 info9 rfl (by decide) (by omega) u5 x5_5 l0_1 _ _ _ (fun _ => True) (fun _ => False) rfl rfl ?aO ?aR (fun _ _ h => h) (fun _ h => h.elim) ?aF ?aB ?aS ?aL ?_; (case aR => repeat (first | exact (Kd.C_below HR0_1.out HB.out) | (with_reducible refine Kd.C_alloc ?_ _) | (with_reducible refine Kd.C_drewN ?_ _) | (with_reducible refine Kd.C_drew ?_))); (case aB => exact (bH HB.out)); (case aF => exact (fun _ _ => trivial)); (case aO => exact (by (with_reducible repeat (first | apply Kd.R_alloc | apply Kd.R_drewN | apply Kd.R_drew)); exact HO_5.out)); (case aS => exact (below_size (bH HB.out))); (case aL => have := LMc21.out; omega); intro v129 w25 ho hb hg hat; rw [← Ny128.out] at ho; replace BK117 := Aside0.mk (blk_grown (g := gb117) (o := .cells #[.int .i64 a0_0, .slice A0_1 l0_1.length c0_1, .int .u32 a0_2, .int .i64 a0_3, .string a0_4, .int .u64 a0_5, .int .u64 a0_6, .bool a0_7] 26 (0, 0)) (bK BK117.out) hg (Kd.R_ne HO_5.out BK117.out (by decide))); replace HB := Aside0.mk (hb); have HO130 := Aside0.mk (ho); clear HO_5; clear ho hb hg hat; obtain ⟨hcz26, hfz26⟩ := d8 BK117) | ((with_reducible refine gate_callee (f := 27) rfl ?_); refine goesL_ (some 31) rfl rfl Tryd.func27 (by kernel_rfl) rfl #[.int .i64 a0_0] rfl (by (try simp only [List.map_toArray, List.map_cons, List.map_nil]); first | done | rfl | (simp only [List.length_drop, List.length_take]; rfl)) ?_; (with_reducible refine (verb_Stores.calls a0_0 t131 _ A22.out).mono ?_); rintro e w' ⟨rfl, ⟨nd, rfl⟩⟩; refine ⟨_, rfl, ?_⟩))
     (try simp only [Act.put, sA, sB, sC])
     go_cut [5] (fun v5 wc => ∃ (kq : Nat) (x5_22 : List ByteArray), Aside0 (line_Write.j1 kq x5_22 a0_0 l0_1 a0_2 a0_3 a0_4 a0_5 a0_6 a0_7 = some (r1, r2)) ∧ Aside0 (kq ≤ kj5) ∧ Aside0 (Kd.R Kd.string 9 wc w.heap.size (fun _ => True) v5 x5_22) ∧ Aside0 (wc.heap[gb117]? = some (.cells #[.int .i64 a0_0, (.slice A0_1 l0_1.length c0_1), .int .u32 a0_2, .int .i64 a0_3, .string a0_4, .int .u64 a0_5, .int .u64 a0_6, .bool a0_7] 26 (0, 0))) ∧ Aside0 (Below w.heap.size w wc))
     case first =>
      have H := HC23.out; clear HC23
      by_cases c27 : t131 = true
      ·subst c27; rw [if_pos rfl] at H; replace H := Option.bind_eq_some_iff.mp H; obtain ⟨t132, A280, H⟩ := H; (try dsimp only at H); have A28 := Aside0.mk A280; clear A280; replace H := Option.bind_eq_some_iff.mp H; obtain ⟨t133, A290, H⟩ := H; (try dsimp only at H); have A29 := Aside0.mk A290; clear A290; replace H := Option.bind_eq_some_iff.mp H; obtain ⟨t134, A300, H⟩ := H; (try dsimp only at H); have A30 := Aside0.mk A300; clear A300; obtain ⟨y135, hy135⟩ : ∃ y_ : List ByteArray, y_ = (([t132, t133, t134] : List ByteArray)) := ⟨_, rfl⟩; replace H : (if y128.length + y135.length < 8796093022208 then (line_Write.j1 kj5 (y128 ++ y135) a0_0 l0_1 a0_2 a0_3 a0_4 a0_5 a0_6 a0_7) else (none)) = some (r1, r2) := by first | (rw [hy135]; with_reducible exact H) | (have H2_ := (Option.bind_some _ _).symm.trans H; rw [hy135]; with_reducible exact H2_) | (have H2_ := (Option.bind_some _ _).symm.trans H; with_reducible exact H2_) | with_reducible exact H | (rw [hy135]; exact H) | exact H
       have Ny135 := Aside0.mk hy135; clear hy135
       by_cases c31 : y128.length + y135.length < 8796093022208
       ·rw [if_pos c31] at H; have LMc31 := Aside0.mk c31; clear c31; obtain ⟨y138, hy138⟩ : ∃ y_ : List ByteArray, y_ = (y128 ++ y135) := ⟨_, rfl⟩; replace H : (line_Write.j1 kj5 y138 a0_0 l0_1 a0_2 a0_3 a0_4 a0_5 a0_6 a0_7) = some (r1, r2) := by first | (rw [hy138]; with_reducible exact H) | (have H2_ := (Option.bind_some _ _).symm.trans H; rw [hy138]; with_reducible exact H2_) | (have H2_ := (Option.bind_some _ _).symm.trans H; with_reducible exact H2_) | with_reducible exact H | (rw [hy138]; exact H) | exact H
        have Ny138 := Aside0.mk hy138; clear hy138; have H' := Aside0.mk H; clear H
        try go_wp2
        (try simp only [World.drewN_drewN]); (try (rw [drewN_self w25]; generalize hq_ : World.drewN w25 _ = w25; have n0_ : Aside0 (Kd.R Kd.string 9 w25 w.heap.size (fun _ => True) v129 y128) := ⟨by rw [← hq_]; exact (by (with_reducible repeat (first | apply Kd.R_alloc | apply Kd.R_drewN | apply Kd.R_drew)); exact HO130.out)⟩; have n1_ := Aside0.mk (bQ BK117.out hq_); have n2_ := Aside0.mk (bF HB.out hq_); clear HO130 BK117 HB hq_; have HO130 := n0_; have BK117 := n1_; have HB := n2_; clear n0_ n1_ n2_))
        replace HO130 := Aside0.mk (Kd.R_drew HO130.out); replace BK117 := Aside0.mk (bD BK117.out); replace HB := Aside0.mk (eD HB.out); refine start_ (n := 16) (S := fun w' => w'.cell? ⟨gb117, 0, none⟩ = some (.int .i64 a0_0) ∧ w'.cell? ⟨gb117, 1, none⟩ = some (.slice A0_1 l0_1.length c0_1) ∧ w'.cell? ⟨gb117, 2, none⟩ = some (.int .u32 a0_2) ∧ w'.cell? ⟨gb117, 3, none⟩ = some (.int .i64 a0_3) ∧ w'.cell? ⟨gb117, 4, none⟩ = some (.string a0_4) ∧ w'.cell? ⟨gb117, 5, none⟩ = some (.int .u64 a0_5) ∧ w'.cell? ⟨gb117, 6, none⟩ = some (.int .u64 a0_6) ∧ w'.cell? ⟨gb117, 7, none⟩ = some (.bool a0_7)) (ds := []) #[false, false, false, false, false, false, false, false, false, false, false, false, false, false, false, false] (by kernel_rfl) rfl rfl ⟨kC BK117 0, kC BK117 1, kC BK117 2, kC BK117 3, kC BK117 4, kC BK117 5, kC BK117 6, kC BK117 7⟩ (fun hHeld => ?_); refine with_tabW line_Write.tab9 line_Write.bits9 (fun HT_ HW_ => ?_)
        generalize w25.drew = w32 at HO130 BK117 HB hHeld ⊢; refine pU HT_ 0 (some 32) ?_ #[true, false, false, false, false, false, false, false, false, false, false, false, false, false, false, false] rfl rfl ?_ ?_ ?_ ?_
        rotate_left
        ·intro w'
         go_simp
         with_reducible rfl
        rotate_left
        ·simp only [Act.put, sA, sB, sC, i64_w, i32_w]
         rfl
        refine pU HT_ 1 (some 33) ?_ #[true, true, false, false, false, false, false, false, false, false, false, false, false, false, false, false] rfl rfl ?_ ?_ ?_ ?_
        rotate_left
        ·intro w'
         go_simp
         with_reducible rfl
        rotate_left
        ·simp only [Act.put, sA, sB, sC, i64_w, i32_w]
         rfl
        refine pU HT_ 5 (some 37) ?_ #[true, true, false, false, false, true, false, false, false, false, false, false, false, false, false, false] rfl rfl ?_ ?_ ?_ ?_
        rotate_left
        ·intro w'
         go_simp
         with_reducible rfl
        rotate_left
        ·simp only [Act.put, sA, sB, sC, i64_w, i32_w]
         rfl
        refine pU HT_ 8 (some 40) ?_ #[true, true, false, false, false, true, false, false, true, false, false, false, false, false, false, false] rfl rfl ?_ ?_ ?_ ?_
        rotate_left
        ·intro w'
         go_simp
         with_reducible rfl
        rotate_left
        ·simp only [Act.put, sA, sB, sC, i64_w, i32_w]
         rfl
        refine tU HT_ HW_ hHeld 2 (some 34) ?_ #[true, true, true, false, false, true, false, false, true, false, false, false, false, false, false, false] rfl rfl ?_ ?_ ?_ ?_
        rotate_left
        ·rintro w' ⟨s0, s1, s2, s3, s4, s5, s6, s7⟩
         go_simp
         with_reducible rfl
        rotate_left
        ·simp only [Act.put, sA, sB, sC, i64_w, i32_w]
         rfl
        refine pU HT_ 3 (some 35) ?_ #[true, true, true, true, false, true, false, false, true, false, false, false, false, false, false, false] rfl rfl ?_ ?_ ?_ ?_
        rotate_left
        ·intro w'
         go_simp
         with_reducible rfl
        rotate_left
        ·simp only [Act.put, sA, sB, sC, i64_w, i32_w]
         rfl
        refine tU HT_ HW_ hHeld 6 (some 38) ?_ #[true, true, true, true, false, true, true, false, true, false, false, false, false, false, false, false] rfl rfl ?_ ?_ ?_ ?_
        rotate_left
        ·rintro w' ⟨s0, s1, s2, s3, s4, s5, s6, s7⟩
         go_simp
         with_reducible rfl
        rotate_left
        ·simp only [Act.put, sA, sB, sC, i64_w, i32_w]
         rfl
        refine tU HT_ HW_ hHeld 9 (some 41) ?_ #[true, true, true, true, false, true, true, false, true, true, false, false, false, false, false, false] rfl rfl ?_ ?_ ?_ ?_
        rotate_left
        ·rintro w' ⟨s0, s1, s2, s3, s4, s5, s6, s7⟩
         go_simp
         with_reducible rfl
        rotate_left
        ·simp only [Act.put, sA, sB, sC, i64_w, i32_w]
         rfl
        refine pU HT_ 10 (some 42) ?_ #[true, true, true, true, false, true, true, false, true, true, true, false, false, false, false, false] rfl rfl ?_ ?_ ?_ ?_
        rotate_left
        ·intro w'
         go_simp
         with_reducible rfl
        rotate_left
        ·simp only [Act.put, sA, sB, sC, i64_w, i32_w]
         rfl
        refine pU HT_ 11 (some 43) ?_ #[true, true, true, true, false, true, true, false, true, true, true, true, false, false, false, false] rfl rfl ?_ ?_ ?_ ?_
        rotate_left
        ·intro w'
         go_simp
         with_reducible rfl
        rotate_left
        ·simp only [Act.put, sA, sB, sC, i64_w, i32_w]
         rfl
        refine one_ (i := 4) (N := some 36) #[true, true, true, true, true, true, true, false, true, true, true, true, false, false, false, false] rfl rfl (one_of HT_.out (by kernel_rfl)) (by decide) (fun K hK => ?_)
        refine goes_ Tryd.func28 (by kernel_rfl) rfl #[.int .u64 (IntKind.u64.wrap (a0_2))] (by rfl) rfl rfl (by (try simp only [List.map_toArray, List.map_cons, List.map_nil]); first | done | rfl | (simp only [List.length_drop, List.length_take]; rfl)) ?_
        with_reducible refine (digits_Text.calls (IntKind.u64.wrap (a0_2)) t132 _ A28.out (by first | exact HL.out | exact LdT.on HL.out (bH HB.out))).mono ?_
        rintro e w33 ⟨rfl, hb⟩
        refine ⟨_, rfl, ?_⟩
        replace HO130 := Aside0.mk (Kd.R_below (by (with_reducible repeat (first | apply Kd.R_alloc | apply Kd.R_drewN | apply Kd.R_drew)); exact HO130.out) hb); replace BK117 := rB BK117 hb; replace HB := rS HB hb
        (try clear hb)
        
        (try clear hk)
        
        refine hK.out _ _ ⟨kC BK117 0, kC BK117 1, kC BK117 2, kC BK117 3, kC BK117 4, kC BK117 5, kC BK117 6, kC BK117 7⟩ (fun hHeld => ?_)
        clear hK K; refine norm_ (a' := ?_) ?_ ?_
        rotate_left
        ·show Act.put _ (some 36) _ = _
         simp only [Act.put, sA, sB, sC, i64_w, i32_w]
         rfl
        refine one_ (i := 7) (N := some 39) #[true, true, true, true, true, true, true, true, true, true, true, true, false, false, false, false] rfl rfl (one_of HT_.out (by kernel_rfl)) (by decide) (fun K hK => ?_)
        refine goes_ Tryd.func26 (by kernel_rfl) rfl #[.int .i64 a0_3] (by rfl) rfl rfl (by (try simp only [List.map_toArray, List.map_cons, List.map_nil]); first | done | rfl | (simp only [List.length_drop, List.length_take]; rfl)) ?_
        with_reducible refine (digits_TextSigned.calls a0_3 t133 _ A29.out (by first | exact HL.out | exact LdT.on HL.out (bH HB.out))).mono ?_
        rintro e w34 ⟨rfl, hb⟩
        refine ⟨_, rfl, ?_⟩
        replace HO130 := Aside0.mk (Kd.R_below (by (with_reducible repeat (first | apply Kd.R_alloc | apply Kd.R_drewN | apply Kd.R_drew)); exact HO130.out) hb); replace BK117 := rB BK117 hb; replace HB := rS HB hb
        (try clear hb)
        
        (try clear hk)
        
        refine hK.out _ _ ⟨kC BK117 0, kC BK117 1, kC BK117 2, kC BK117 3, kC BK117 4, kC BK117 5, kC BK117 6, kC BK117 7⟩ (fun hHeld => ?_)
        clear hK K; refine norm_ (a' := ?_) ?_ ?_
        rotate_left
        ·show Act.put _ (some 39) _ = _
         simp only [Act.put, sA, sB, sC, i64_w, i32_w]
         rfl
        refine one_ (i := 12) (N := some 44) #[true, true, true, true, true, true, true, true, true, true, true, true, true, false, false, false] rfl rfl (one_of HT_.out (by kernel_rfl)) (by decide) (fun K hK => ?_)
        refine goes_ Tryd.func28 (by kernel_rfl) rfl #[.int .u64 (IntKind.u64.wrap ((a0_4.size : Int)))] (by rfl) rfl rfl (by (try simp only [List.map_toArray, List.map_cons, List.map_nil]); first | done | rfl | (simp only [List.length_drop, List.length_take]; rfl)) ?_
        with_reducible refine (digits_Text.calls (IntKind.u64.wrap ((a0_4.size : Int))) t134 _ A30.out (by first | exact HL.out | exact LdT.on HL.out (bH HB.out))).mono ?_
        rintro e w35 ⟨rfl, hb⟩
        refine ⟨_, rfl, ?_⟩
        replace HO130 := Aside0.mk (Kd.R_below (by (with_reducible repeat (first | apply Kd.R_alloc | apply Kd.R_drewN | apply Kd.R_drew)); exact HO130.out) hb); replace BK117 := rB BK117 hb; replace HB := rS HB hb
        (try clear hb)
        
        (try clear hk)
        
        refine hK.out _ _ ⟨kC BK117 0, kC BK117 1, kC BK117 2, kC BK117 3, kC BK117 4, kC BK117 5, kC BK117 6, kC BK117 7⟩ (fun hHeld => ?_)
        clear hK K; refine norm_ (a' := ?_) ?_ ?_
        rotate_left
        ·show Act.put _ (some 44) _ = _
         simp only [Act.put, sA, sB, sC, i64_w, i32_w]
         rfl
        refine one_ (i := 13) (N := some 45) #[true, true, true, true, true, true, true, true, true, true, true, true, true, true, false, false] rfl rfl (one_of HT_.out (by kernel_rfl)) (by decide) (fun K hK => ?_)
        refine Kd.R_lit_step Kd.string _ 9 ?hg (N := 45) ?hd (xs := ([t132, t133, t134] : List ByteArray)) (inner := [.string t132, .string t133, .string t134]) (ok := fun _ => True) (okp := fun _ => True) ?hr ?hp (fun _ hk => hk) trivial (Below.refl _ _) (Nat.le_refl _) (by simp) ?_; (case hd => rfl); (case hg => rfl); (case hr => first | (go_simp; done) | (go_simp; rfl)); (case hp => exact (Reps.one (show Kd.M Kd.string _ _ _ t132 [.string t132] from rfl) (Reps.one (show Kd.M Kd.string _ _ _ t133 [.string t133] from rfl) (Reps.one (show Kd.M Kd.string _ _ _ t134 [.string t134] from rfl) (Reps.none _ _)))))
        intro v136 w36 ho37 hb hg_ hnew_
        clear hg_ hnew_
        (first | rw [← Ny135.out] at ho37 | (simp only [Int.reduceToNat] at ho37; rw [← Ny135.out] at ho37))
        have HO137 := Aside0.mk (Kd.R_lower (Kd.R_new' ho37 (Kd.R_lt (by (with_reducible repeat (first | apply Kd.R_alloc | apply Kd.R_drewN | apply Kd.R_drew)); exact HO130.out))) (below_size (bH HB.out))); replace HO130 := Aside0.mk (Kd.R_elder' (by (with_reducible repeat (first | apply Kd.R_alloc | apply Kd.R_drewN | apply Kd.R_drew)); exact HO130.out) (Kd.R_base ho37) hb); replace BK117 := rB BK117 hb; replace HB := rS HB hb; clear hb ho37; obtain ⟨Ao39, co39, eo39⟩ := Kd.R_slice HO137.out
        (first | subst eo39 | (injection eo39 with f1_ f2_ f3_; have f4_ := f1_.symm; have f5_ := f3_.symm; clear f1_ f2_ f3_; subst f4_; subst f5_))
        refine hK.out _ _ ⟨kC BK117 0, kC BK117 1, kC BK117 2, kC BK117 3, kC BK117 4, kC BK117 5, kC BK117 6, kC BK117 7⟩ (fun hHeld => ?_)
        clear hK K; refine norm_ (a' := ?_) ?_ ?_
        rotate_left
        ·show Act.put _ (some 45) _ = _
         simp only [Act.put, sA, sB, sC, i64_w, i32_w]
         rfl
        refine one_ (i := 14) (N := some 46) #[true, true, true, true, true, true, true, true, true, true, true, true, true, true, true, false] rfl rfl (one_of HT_.out (by kernel_rfl)) (by decide) (fun K hK => ?_)
        refine Kd.R_append_rows_step Kd.string (w0 := w) w.heap.size (by rfl) (.tmp 32) (.tmp 45) 22 9 (.string ⟨#[]⟩) 16 rfl Tryd.underlying22 info9 rfl (by decide) (by omega) v129 y128 y135 _ _ _ (fun k_ => some k_ ≠ (.slice Ao39 y135.length co39 : Value).ownBlock) (fun _ => False) rfl rfl ?aO ?aR (fun _ _ h => h) (fun _ h => h.elim) ?aF ?aB ?aS ?aL ?_
        (case aR => repeat (first | exact (Kd.R_reads' HO137.out).2.2 | (with_reducible refine Kd.C_alloc ?_ _) | (with_reducible refine Kd.C_drewN ?_ _) | (with_reducible refine Kd.C_drew ?_)))
        (case aB => exact (bH HB.out))
        (case aF => exact (fun k_ hk => Kd.fresh' (Kd.R_lt (by (with_reducible repeat (first | apply Kd.R_alloc | apply Kd.R_drewN | apply Kd.R_drew)); exact HO137.out)) k_ hk))
        (case aO => exact (by (with_reducible repeat (first | apply Kd.R_alloc | apply Kd.R_drewN | apply Kd.R_drew)); exact Kd.R_mono HO130.out (fun _ hk => hk.2)))
        (case aS => exact (below_size (bH HB.out)))
        (case aL => have := LMc31.out; omega)
        intro v139 w38 ho hb hg hat
        rw [← Ny138.out] at ho; replace BK117 := Aside0.mk (blk_grown (g := gb117) (o := .cells #[.int .i64 a0_0, .slice A0_1 l0_1.length c0_1, .int .u32 a0_2, .int .i64 a0_3, .string a0_4, .int .u64 a0_5, .int .u64 a0_6, .bool a0_7] 26 (0, 0)) (bK BK117.out) hg (Kd.R_ne HO130.out BK117.out (by decide))); replace HO137 := Aside0.mk (Kd.R_after (ok := (fun _ => True)) (by (with_reducible repeat (first | apply Kd.R_alloc | apply Kd.R_drewN | apply Kd.R_drew)); exact HO137.out) hg hat); replace HB := Aside0.mk (hb); have HO140 := Aside0.mk (ho); clear HO130; clear ho hb hg hat; refine hK.out _ _ ⟨kC BK117 0, kC BK117 1, kC BK117 2, kC BK117 3, kC BK117 4, kC BK117 5, kC BK117 6, kC BK117 7⟩ (fun hHeld => ?_)
        clear hK K; refine norm_ (a' := ?_) ?_ ?_
        rotate_left
        ·show Act.put _ (some 46) _ = _
         simp only [Act.put, sA, sB, sC, i64_w, i32_w]
         rfl
        refine pU HT_ 15 (some 5) ?_ #[true, true, true, true, true, true, true, true, true, true, true, true, true, true, true, true] rfl rfl ?_ ?_ ?_ ?_
        rotate_left
        ·intro w'
         go_simp
         with_reducible rfl
        rotate_left
        ·simp only [Act.put, sA, sB, sC, i64_w, i32_w]
         rfl
        refine done_ (done_of HT_.out (by kernel_rfl)) ?_
        try go_wp2
        go_meet
        case rel => exact ⟨_, (y138), H', ⟨by have := HJ5.out; first | omega | exact Nat.le_refl _⟩, ⟨by (with_reducible repeat (first | apply Kd.R_alloc | apply Kd.R_drewN | apply Kd.R_drew)); exact Kd.R_mono HO140.out (fun _ hk => trivial)⟩, ⟨bK BK117.out⟩, ⟨bH HB.out⟩⟩
       ·rw [if_neg c31] at H; exact absurd H (by simp)
      ·replace c27 := Bool.eq_false_iff.mpr c27; subst c27; rw [if_neg (show ¬ (false = true) by decide)] at H; have H' := Aside0.mk H; clear H; go_wp2
       go_meet
       case rel => exact ⟨_, (y128), H', ⟨by have := HJ5.out; first | omega | exact Nat.le_refl _⟩, ⟨by (with_reducible repeat (first | apply Kd.R_alloc | apply Kd.R_drewN | apply Kd.R_drew)); exact HO130.out⟩, ⟨bK BK117.out⟩, ⟨bH HB.out⟩⟩
     case rest =>
      clear HC23; (try clear c3); (try clear c3b0); (try clear c3b1); (try clear c15); (try clear c17); (try clear c21); (try clear c27); (try clear c31); (try clear hcz10); (try clear hcz14); (try clear hcz18); (try clear hcz24); (try clear hcz26); (try clear hcz8); (try clear hfz10); (try clear hfz14); (try clear hfz18); (try clear hfz24); (try clear hfz26); (try clear hfz8); obtain ⟨kq, x5_22, HA, HJ22, HO_5, BK117, HB⟩ := hcut; cases kq with
      | zero => exact absurd HA.out (by simp [line_Write.j1])
      | succ kj22 =>
       have H := HA.out; clear HA; simp only [line_Write.j1] at H; have HC40 := Aside0.mk H; clear H; obtain ⟨hcz41, hfz41⟩ := d8 BK117
       go_upto_block 0 with (fail)
       go_cut [5] (fun v5 wc => ∃ (kq : Nat) (x5_39 : List ByteArray), Aside0 (line_Write.j3 kq x5_39 a0_0 l0_1 a0_2 a0_3 a0_4 a0_5 a0_6 a0_7 = some (r1, r2)) ∧ Aside0 (kq ≤ kj22) ∧ Aside0 (Kd.R Kd.string 9 wc w.heap.size (fun _ => True) v5 x5_39) ∧ Aside0 (wc.heap[gb117]? = some (.cells #[.int .i64 a0_0, (.slice A0_1 l0_1.length c0_1), .int .u32 a0_2, .int .i64 a0_3, .string a0_4, .int .u64 a0_5, .int .u64 a0_6, .bool a0_7] 26 (0, 0))) ∧ Aside0 (Below w.heap.size w wc))
       case first =>
        have H := HC40.out; clear HC40
        by_cases c42 : a0_0 = 10
        ·rw [if_pos c42] at H; have c42b0 : (a0_0 == 10) = true := beq_iff_eq.mpr c42; have c42b1 : (a0_0 != 10) = false := bne_eq_false_iff_eq.mpr c42; clear c42
         (first | rw [c42b0] | (simp only [i64_w, i32_w]; rw [c42b0]) | skip)
         replace H := Option.bind_eq_some_iff.mp H; obtain ⟨t141, A430, H⟩ := H; (try dsimp only at H); have A43 := Aside0.mk A430; clear A430
         by_cases c44 : x5_22.length < 8796093022208
         ·rw [if_pos c44] at H; have LMc44 := Aside0.mk c44; clear c44; obtain ⟨y142, hy142⟩ : ∃ y_ : List ByteArray, y_ = (x5_22 ++ [t141]) := ⟨_, rfl⟩; replace H : (line_Write.j3 kj22 y142 a0_0 l0_1 a0_2 a0_3 a0_4 a0_5 a0_6 a0_7) = some (r1, r2) := by first | (rw [hy142]; with_reducible exact H) | (have H2_ := (Option.bind_some _ _).symm.trans H; rw [hy142]; with_reducible exact H2_) | (have H2_ := (Option.bind_some _ _).symm.trans H; with_reducible exact H2_) | with_reducible exact H | (rw [hy142]; exact H) | exact H
          have Ny142 := Aside0.mk hy142; clear hy142; have H' := Aside0.mk H; clear H; obtain ⟨hcz45, hfz45⟩ := d8 BK117
          go_wp2_with (first | ((with_reducible refine gate_callee (f := 28) rfl ?_); refine goesL_ (some 54) rfl rfl Tryd.func28 (by kernel_rfl) rfl #[.int .u64 a0_5] rfl (by (try simp only [List.map_toArray, List.map_cons, List.map_nil]); first | done | rfl | (simp only [List.length_drop, List.length_take]; rfl)) ?_; (with_reducible refine (digits_Text.calls a0_5 t141 _ A43.out (by first | exact HL.out | exact LdT.on HL.out (bH HB.out))).mono ?_); rintro e w46 ⟨rfl, hb⟩; refine ⟨_, rfl, ?_⟩; replace HO_5 := Aside0.mk (Kd.R_below (by (with_reducible repeat (first | apply Kd.R_alloc | apply Kd.R_drewN | apply Kd.R_drew)); exact HO_5.out) hb); replace BK117 := rB BK117 hb; replace HB := rS HB hb; (try clear hb); (try clear hk); ) | ((with_reducible refine gate_builtin (b := .append) (xs := #[.tmp 51, .tmp 55]) rfl ?_); at_builtin; refine Kd.R_append Kd.string (w0 := w) w.heap.size rfl (.tmp 51) (.tmp 55) 22 9 (.string ⟨#[]⟩) 16 rfl Tryd.underlying22 info9 rfl (by decide) (by omega) u5 x5_22 t141 [.string t141] (fun _ => True) (fun _ => False) rfl rfl ?aP (fun _ hk => hk.elim) ?aF ?aO ?aB ?aS ?aL ?_; (case aP => exact rfl); (case aB => exact (bH HB.out)); (case aF => exact (fun _ _ => trivial)); (case aO => exact (by (with_reducible repeat (first | apply Kd.R_alloc | apply Kd.R_drewN | apply Kd.R_drew)); exact HO_5.out)); (case aS => exact (below_size (bH HB.out))); (case aL => have := LMc44.out; omega); intro v143 w47 ho hb hg hat; rw [← Ny142.out] at ho; replace BK117 := Aside0.mk (blk_grown (g := gb117) (o := .cells #[.int .i64 a0_0, .slice A0_1 l0_1.length c0_1, .int .u32 a0_2, .int .i64 a0_3, .string a0_4, .int .u64 a0_5, .int .u64 a0_6, .bool a0_7] 26 (0, 0)) (bK BK117.out) hg (Kd.R_ne HO_5.out BK117.out (by decide))); replace HB := Aside0.mk (hb); have HO144 := Aside0.mk (ho); clear HO_5; clear ho hb hg hat))
          go_meet
          case rel => exact ⟨_, (y142), H', ⟨by have := HJ5.out; have := HJ22.out; first | omega | exact Nat.le_refl _⟩, ⟨by (with_reducible repeat (first | apply Kd.R_alloc | apply Kd.R_drewN | apply Kd.R_drew)); exact HO144.out⟩, ⟨bK BK117.out⟩, ⟨bH HB.out⟩⟩
         ·rw [if_neg c44] at H; exact absurd H (by simp)
        ·rw [if_neg c42] at H; have c42b0 : (a0_0 == 10) = false := beq_eq_false_iff_ne.mpr c42; have c42b1 : (a0_0 != 10) = true := bne_iff_ne.mpr c42
         (first | rw [c42b0] | (simp only [i64_w, i32_w]; rw [c42b0]) | skip)
         by_cases c48 : a0_0 = 14
         ·rw [if_pos c48] at H; have c48b0 : (a0_0 == 14) = true := beq_iff_eq.mpr c48; have c48b1 : (a0_0 != 14) = false := bne_eq_false_iff_eq.mpr c48; clear c48; replace H := Option.bind_eq_some_iff.mp H; obtain ⟨t145, A490, H⟩ := H; (try dsimp only at H); have A49 := Aside0.mk A490; clear A490
          by_cases c50 : x5_22.length < 8796093022208
          ·rw [if_pos c50] at H; have LMc50 := Aside0.mk c50; clear c50; obtain ⟨y146, hy146⟩ : ∃ y_ : List ByteArray, y_ = (x5_22 ++ [t145]) := ⟨_, rfl⟩; replace H : (line_Write.j3 kj22 y146 a0_0 l0_1 a0_2 a0_3 a0_4 a0_5 a0_6 a0_7) = some (r1, r2) := by first | (rw [hy146]; with_reducible exact H) | (have H2_ := (Option.bind_some _ _).symm.trans H; rw [hy146]; with_reducible exact H2_) | (have H2_ := (Option.bind_some _ _).symm.trans H; with_reducible exact H2_) | with_reducible exact H | (rw [hy146]; exact H) | exact H
           have Ny146 := Aside0.mk hy146; clear hy146; have H' := Aside0.mk H; clear H; obtain ⟨hcz51, hfz51⟩ := d8 BK117
           go_wp2_with (first | ((with_reducible refine gate_callee (f := 26) rfl ?_); refine goesL_ (some 62) rfl rfl Tryd.func26 (by kernel_rfl) rfl #[.int .i64 a0_3] rfl (by (try simp only [List.map_toArray, List.map_cons, List.map_nil]); first | done | rfl | (simp only [List.length_drop, List.length_take]; rfl)) ?_; (with_reducible refine (digits_TextSigned.calls a0_3 t145 _ A49.out (by first | exact HL.out | exact LdT.on HL.out (bH HB.out))).mono ?_); rintro e w52 ⟨rfl, hb⟩; refine ⟨_, rfl, ?_⟩; replace HO_5 := Aside0.mk (Kd.R_below (by (with_reducible repeat (first | apply Kd.R_alloc | apply Kd.R_drewN | apply Kd.R_drew)); exact HO_5.out) hb); replace BK117 := rB BK117 hb; replace HB := rS HB hb; (try clear hb); (try clear hk); ) | ((with_reducible refine gate_builtin (b := .append) (xs := #[.tmp 59, .tmp 63]) rfl ?_); at_builtin; refine Kd.R_append Kd.string (w0 := w) w.heap.size rfl (.tmp 59) (.tmp 63) 22 9 (.string ⟨#[]⟩) 16 rfl Tryd.underlying22 info9 rfl (by decide) (by omega) u5 x5_22 t145 [.string t145] (fun _ => True) (fun _ => False) rfl rfl ?aP (fun _ hk => hk.elim) ?aF ?aO ?aB ?aS ?aL ?_; (case aP => exact rfl); (case aB => exact (bH HB.out)); (case aF => exact (fun _ _ => trivial)); (case aO => exact (by (with_reducible repeat (first | apply Kd.R_alloc | apply Kd.R_drewN | apply Kd.R_drew)); exact HO_5.out)); (case aS => exact (below_size (bH HB.out))); (case aL => have := LMc50.out; omega); intro v147 w53 ho hb hg hat; rw [← Ny146.out] at ho; replace BK117 := Aside0.mk (blk_grown (g := gb117) (o := .cells #[.int .i64 a0_0, .slice A0_1 l0_1.length c0_1, .int .u32 a0_2, .int .i64 a0_3, .string a0_4, .int .u64 a0_5, .int .u64 a0_6, .bool a0_7] 26 (0, 0)) (bK BK117.out) hg (Kd.R_ne HO_5.out BK117.out (by decide))); replace HB := Aside0.mk (hb); have HO148 := Aside0.mk (ho); clear HO_5; clear ho hb hg hat))
           go_meet
           case rel => exact ⟨_, (y146), H', ⟨by have := HJ5.out; have := HJ22.out; first | omega | exact Nat.le_refl _⟩, ⟨by (with_reducible repeat (first | apply Kd.R_alloc | apply Kd.R_drewN | apply Kd.R_drew)); exact HO148.out⟩, ⟨bK BK117.out⟩, ⟨bH HB.out⟩⟩
          ·rw [if_neg c50] at H; exact absurd H (by simp)
         ·rw [if_neg c48] at H; have c48b0 : (a0_0 == 14) = false := beq_eq_false_iff_ne.mpr c48; have c48b1 : (a0_0 != 14) = true := bne_iff_ne.mpr c48; have HC54 := Aside0.mk H; clear H
          go_upto_if 65 with (fail)
          go_cut [65] (fun v65 wc => ∃ (kq : Nat) (x65_53 : Bool), v65 = .bool x65_53 ∧ Aside0 (line_Write.j2 kq x5_22 x65_53 a0_0 l0_1 a0_2 a0_3 a0_4 a0_5 a0_6 a0_7 = some (r1, r2)) ∧ Aside0 (kq ≤ kj22) ∧ Aside0 (Kd.R Kd.string 9 wc w.heap.size (fun _ => True) u5 x5_22) ∧ Aside0 (wc.heap[gb117]? = some (.cells #[.int .i64 a0_0, (.slice A0_1 l0_1.length c0_1), .int .u32 a0_2, .int .i64 a0_3, .string a0_4, .int .u64 a0_5, .int .u64 a0_6, .bool a0_7] 26 (0, 0))) ∧ Aside0 (Below w.heap.size w wc))
          case first =>
           have H := HC54.out; clear HC54
           by_cases c55 : a0_0 = 12
           ·rw [if_pos c55] at H; have c55b0 : (a0_0 == 12) = true := beq_iff_eq.mpr c55; have c55b1 : (a0_0 != 12) = false := bne_eq_false_iff_eq.mpr c55; clear c55
            (first | rw [c55b0] | (simp only [i64_w, i32_w]; rw [c55b0]) | skip)
            have H' := Aside0.mk H; clear H; go_wp2
            go_meet
            case rel => exact ⟨_, ((a0_0 == 12)), (by first | rfl | (simp; done) | (simp [*]; done)), H', ⟨by have := HJ5.out; have := HJ22.out; first | omega | exact Nat.le_refl _⟩, ⟨by (with_reducible repeat (first | apply Kd.R_alloc | apply Kd.R_drewN | apply Kd.R_drew)); exact HO_5.out⟩, ⟨bK BK117.out⟩, ⟨bH HB.out⟩⟩
           ·rw [if_neg c55] at H; have c55b0 : (a0_0 == 12) = false := beq_eq_false_iff_ne.mpr c55; have c55b1 : (a0_0 != 12) = true := bne_iff_ne.mpr c55
            (first | rw [c55b0] | (simp only [i64_w, i32_w]; rw [c55b0]) | skip)
            have H' := Aside0.mk H; clear H; go_wp2
            go_meet
            case rel => exact ⟨_, ((a0_0 == 13)), (by first | rfl | (simp; done) | (simp [*]; done)), H', ⟨by have := HJ5.out; have := HJ22.out; first | omega | exact Nat.le_refl _⟩, ⟨by (with_reducible repeat (first | apply Kd.R_alloc | apply Kd.R_drewN | apply Kd.R_drew)); exact HO_5.out⟩, ⟨bK BK117.out⟩, ⟨bH HB.out⟩⟩
          case rest =>
           clear HC54; (try clear c3); (try clear c3b0); (try clear c3b1); (try clear c15); (try clear c17); (try clear c21); (try clear c27); (try clear c31); (try clear c42); (try clear c42b0); (try clear c42b1); (try clear c44); (try clear c48); (try clear c48b0); (try clear c48b1); (try clear c50); (try clear c55); (try clear c55b0); (try clear c55b1); (try clear hcz10); (try clear hcz14); (try clear hcz18); (try clear hcz24); (try clear hcz26); (try clear hcz41); (try clear hcz45); (try clear hcz51); (try clear hcz8); (try clear hfz10); (try clear hfz14); (try clear hfz18); (try clear hfz24); (try clear hfz26); (try clear hfz41)
           (try clear hfz41); (try clear hfz45); (try clear hfz51); (try clear hfz8); obtain ⟨kq, x65_53, rfl, HA, HJ53, HO_5, BK117, HB⟩ := hcut; cases kq with
           | zero => exact absurd HA.out (by simp [line_Write.j2])
           | succ kj53 =>
            have H := HA.out; clear HA; simp only [line_Write.j2] at H
            by_cases c56 : x65_53 = true
            ·subst c56; rw [if_pos rfl] at H; replace H := Option.bind_eq_some_iff.mp H; obtain ⟨t149, A570, H⟩ := H; (try dsimp only at H); have A57 := Aside0.mk A570; clear A570
             by_cases c58 : x5_22.length < 8796093022208
             ·rw [if_pos c58] at H; have LMc58 := Aside0.mk c58; clear c58; obtain ⟨y150, hy150⟩ : ∃ y_ : List ByteArray, y_ = (x5_22 ++ [t149]) := ⟨_, rfl⟩; replace H : (line_Write.j3 kj53 y150 a0_0 l0_1 a0_2 a0_3 a0_4 a0_5 a0_6 a0_7) = some (r1, r2) := by first | (rw [hy150]; with_reducible exact H) | (have H2_ := (Option.bind_some _ _).symm.trans H; rw [hy150]; with_reducible exact H2_) | (have H2_ := (Option.bind_some _ _).symm.trans H; with_reducible exact H2_) | with_reducible exact H | (rw [hy150]; exact H) | exact H
              have Ny150 := Aside0.mk hy150; clear hy150; have H' := Aside0.mk H; clear H; obtain ⟨hcz59, hfz59⟩ := d8 BK117
              go_wp2_with (first | ((with_reducible refine gate_callee (f := 28) rfl ?_); refine goesL_ (some 71) rfl rfl Tryd.func28 (by kernel_rfl) rfl #[.int .u64 a0_6] rfl (by (try simp only [List.map_toArray, List.map_cons, List.map_nil]); first | done | rfl | (simp only [List.length_drop, List.length_take]; rfl)) ?_; (with_reducible refine (digits_Text.calls a0_6 t149 _ A57.out (by first | exact HL.out | exact LdT.on HL.out (bH HB.out))).mono ?_); rintro e w60 ⟨rfl, hb⟩; refine ⟨_, rfl, ?_⟩; replace HO_5 := Aside0.mk (Kd.R_below (by (with_reducible repeat (first | apply Kd.R_alloc | apply Kd.R_drewN | apply Kd.R_drew)); exact HO_5.out) hb); replace BK117 := rB BK117 hb; replace HB := rS HB hb; (try clear hb); (try clear hk); ) | ((with_reducible refine gate_builtin (b := .append) (xs := #[.tmp 68, .tmp 72]) rfl ?_); at_builtin; refine Kd.R_append Kd.string (w0 := w) w.heap.size rfl (.tmp 68) (.tmp 72) 22 9 (.string ⟨#[]⟩) 16 rfl Tryd.underlying22 info9 rfl (by decide) (by omega) u5 x5_22 t149 [.string t149] (fun _ => True) (fun _ => False) rfl rfl ?aP (fun _ hk => hk.elim) ?aF ?aO ?aB ?aS ?aL ?_; (case aP => exact rfl); (case aB => exact (bH HB.out)); (case aF => exact (fun _ _ => trivial)); (case aO => exact (by (with_reducible repeat (first | apply Kd.R_alloc | apply Kd.R_drewN | apply Kd.R_drew)); exact HO_5.out)); (case aS => exact (below_size (bH HB.out))); (case aL => have := LMc58.out; omega); intro v151 w61 ho hb hg hat; rw [← Ny150.out] at ho; replace BK117 := Aside0.mk (blk_grown (g := gb117) (o := .cells #[.int .i64 a0_0, .slice A0_1 l0_1.length c0_1, .int .u32 a0_2, .int .i64 a0_3, .string a0_4, .int .u64 a0_5, .int .u64 a0_6, .bool a0_7] 26 (0, 0)) (bK BK117.out) hg (Kd.R_ne HO_5.out BK117.out (by decide))); replace HB := Aside0.mk (hb); have HO152 := Aside0.mk (ho); clear HO_5; clear ho hb hg hat))
              go_meet
              case rel => exact ⟨_, (y150), H', ⟨by have := HJ5.out; have := HJ22.out; have := HJ53.out; first | omega | exact Nat.le_refl _⟩, ⟨by (with_reducible repeat (first | apply Kd.R_alloc | apply Kd.R_drewN | apply Kd.R_drew)); exact HO152.out⟩, ⟨bK BK117.out⟩, ⟨bH HB.out⟩⟩
             ·rw [if_neg c58] at H; exact absurd H (by simp)
            ·replace c56 := Bool.eq_false_iff.mpr c56; subst c56; rw [if_neg (show ¬ (false = true) by decide)] at H; have H' := Aside0.mk H; clear H; go_wp2
             go_meet
             case rel => exact ⟨_, (x5_22), H', ⟨by have := HJ5.out; have := HJ22.out; have := HJ53.out; first | omega | exact Nat.le_refl _⟩, ⟨by (with_reducible repeat (first | apply Kd.R_alloc | apply Kd.R_drewN | apply Kd.R_drew)); exact HO_5.out⟩, ⟨bK BK117.out⟩, ⟨bH HB.out⟩⟩
       case rest =>
        clear HC40; (try clear c3); (try clear c3b0); (try clear c3b1); (try clear c15); (try clear c17); (try clear c21); (try clear c27); (try clear c31); (try clear c42); (try clear c42b0); (try clear c42b1); (try clear c44); (try clear c48); (try clear c48b0); (try clear c48b1); (try clear c50); (try clear c55); (try clear c55b0); (try clear c55b1); (try clear c56); (try clear c58); (try clear hcz10); (try clear hcz14); (try clear hcz18); (try clear hcz24); (try clear hcz26); (try clear hcz41); (try clear hcz45); (try clear hcz51); (try clear hcz59); (try clear hcz8); (try clear hfz10); (try clear hfz14); (try clear hfz18); (try clear hfz24); (try clear hfz26)
        (try clear hfz26); (try clear hfz41); (try clear hfz45); (try clear hfz51); (try clear hfz59); (try clear hfz8); obtain ⟨kq, x5_39, HA, HJ39, HO_5, BK117, HB⟩ := hcut; cases kq with
        | zero => exact absurd HA.out (by simp [line_Write.j3])
        | succ kj39 =>
         have H := HA.out; clear HA; simp only [line_Write.j3] at H; have HC62 := Aside0.mk H; clear H; obtain ⟨hcz63, hfz63⟩ := d8 BK117
         go_upto_if 75 with (fail)
         go_cut [5] (fun v5 wc => ∃ (kq : Nat) (x5_61 : List ByteArray), Aside0 (line_Write.j4 kq x5_61 = some (r1, r2)) ∧ Aside0 (kq ≤ kj39) ∧ Aside0 (Kd.R Kd.string 9 wc w.heap.size (fun _ => True) v5 x5_61) ∧ Aside0 (wc.heap[gb117]? = some (.cells #[.int .i64 a0_0, (.slice A0_1 l0_1.length c0_1), .int .u32 a0_2, .int .i64 a0_3, .string a0_4, .int .u64 a0_5, .int .u64 a0_6, .bool a0_7] 26 (0, 0))) ∧ Aside0 (Below w.heap.size w wc))
         case first =>
          have H := HC62.out; clear HC62
          by_cases c64 : a0_7 = true
          ·subst c64; rw [if_pos rfl] at H
           by_cases c65 : x5_39.length < 8796093022208
           ·rw [if_pos c65] at H; have LMc65 := Aside0.mk c65; clear c65; obtain ⟨y153, hy153⟩ : ∃ y_ : List ByteArray, y_ = (x5_39 ++ [(⟨#[110, 111, 114, 101, 112, 108, 121]⟩ : ByteArray)]) := ⟨_, rfl⟩; replace H : (line_Write.j4 kj39 y153) = some (r1, r2) := by first | (rw [hy153]; with_reducible exact H) | (have H2_ := (Option.bind_some _ _).symm.trans H; rw [hy153]; with_reducible exact H2_) | (have H2_ := (Option.bind_some _ _).symm.trans H; with_reducible exact H2_) | with_reducible exact H | (rw [hy153]; exact H) | exact H
            have Ny153 := Aside0.mk hy153; clear hy153; have H' := Aside0.mk H; clear H
            go_wp2_with (first | ((with_reducible refine gate_builtin (b := .append) (xs := #[.tmp 76, .tmp 77]) rfl ?_); at_builtin; refine Kd.R_append Kd.string (w0 := w) w.heap.size rfl (.tmp 76) (.tmp 77) 22 9 (.string ⟨#[]⟩) 16 rfl Tryd.underlying22 info9 rfl (by decide) (by omega) u5 x5_39 (⟨#[110, 111, 114, 101, 112, 108, 121]⟩ : ByteArray) [.string (⟨#[110, 111, 114, 101, 112, 108, 121]⟩ : ByteArray)] (fun _ => True) (fun _ => False) rfl rfl ?aP (fun _ hk => hk.elim) ?aF ?aO ?aB ?aS ?aL ?_; (case aP => exact rfl); (case aB => exact (bH HB.out)); (case aF => exact (fun _ _ => trivial)); (case aO => exact (by (with_reducible repeat (first | apply Kd.R_alloc | apply Kd.R_drewN | apply Kd.R_drew)); exact HO_5.out)); (case aS => exact (below_size (bH HB.out))); (case aL => have := LMc65.out; omega); intro v154 w66 ho hb hg hat; rw [← Ny153.out] at ho; replace BK117 := Aside0.mk (blk_grown (g := gb117) (o := .cells #[.int .i64 a0_0, .slice A0_1 l0_1.length c0_1, .int .u32 a0_2, .int .i64 a0_3, .string a0_4, .int .u64 a0_5, .int .u64 a0_6, .bool true] 26 (0, 0)) (bK BK117.out) hg (Kd.R_ne HO_5.out BK117.out (by decide))); replace HB := Aside0.mk (hb); have HO155 := Aside0.mk (ho); clear HO_5; clear ho hb hg hat))
            go_meet
            case rel => exact ⟨_, (y153), H', ⟨by have := HJ5.out; have := HJ22.out; have := HJ39.out; first | omega | exact Nat.le_refl _⟩, ⟨by (with_reducible repeat (first | apply Kd.R_alloc | apply Kd.R_drewN | apply Kd.R_drew)); exact HO155.out⟩, ⟨bK BK117.out⟩, ⟨bH HB.out⟩⟩
           ·rw [if_neg c65] at H; exact absurd H (by simp)
          ·replace c64 := Bool.eq_false_iff.mpr c64; subst c64; rw [if_neg (show ¬ (false = true) by decide)] at H; have H' := Aside0.mk H; clear H; go_wp2
           go_meet
           case rel => exact ⟨_, (x5_39), H', ⟨by have := HJ5.out; have := HJ22.out; have := HJ39.out; first | omega | exact Nat.le_refl _⟩, ⟨by (with_reducible repeat (first | apply Kd.R_alloc | apply Kd.R_drewN | apply Kd.R_drew)); exact HO_5.out⟩, ⟨bK BK117.out⟩, ⟨bH HB.out⟩⟩
         case rest =>
          clear HC62; (try clear c3); (try clear c3b0); (try clear c3b1); (try clear c15); (try clear c17); (try clear c21); (try clear c27); (try clear c31); (try clear c42); (try clear c42b0); (try clear c42b1); (try clear c44); (try clear c48); (try clear c48b0); (try clear c48b1); (try clear c50); (try clear c55); (try clear c55b0); (try clear c55b1); (try clear c56); (try clear c58); (try clear c64); (try clear c65); (try clear hcz10); (try clear hcz14); (try clear hcz18); (try clear hcz24); (try clear hcz26); (try clear hcz41); (try clear hcz45); (try clear hcz51); (try clear hcz59); (try clear hcz63); (try clear hcz8); (try clear hfz10); (try clear hfz14); (try clear hfz18); (try clear hfz24)
          (try clear hfz24); (try clear hfz26); (try clear hfz41); (try clear hfz45); (try clear hfz51); (try clear hfz59); (try clear hfz63); (try clear hfz8); obtain ⟨kq, x5_61, HA, HJ61, HO_5, BK117, HB⟩ := hcut; cases kq with
          | zero => exact absurd HA.out (by simp [line_Write.j4])
          | succ kj61 =>
           have H := HA.out; clear HA; simp only [line_Write.j4] at H; replace H := Option.bind_eq_some_iff.mp H; obtain ⟨t156, A670, H⟩ := H; (try dsimp only at H); have A67 := Aside0.mk A670; clear A670
           by_cases c68 : (t156.size : Int) > 160
           ·rw [if_pos c68] at H; have c68b0 : decide (160 < (t156.size : Int)) = true := decide_eq_true c68; have c68b1 : decide (160 < t156.size) = true := decide_eq_true (by omega); clear c68; simp only [Option.some.injEq, Prod.mk.injEq] at H; obtain ⟨rfl, rfl⟩ := H; obtain ⟨Ao69, co69, eo69⟩ := Kd.R_slice HO_5.out; subst eo69
            go_wp2_with (first | ((with_reducible refine gate_callee (f := 29) rfl ?_); refine goesL_ (some 80) rfl rfl Tryd.func29 (by kernel_rfl) rfl #[.slice Ao69 x5_61.length co69, .string (⟨#[32]⟩ : ByteArray)] rfl (by (try simp only [List.map_toArray, List.map_cons, List.map_nil]); first | done | rfl | (simp only [List.length_drop, List.length_take]; rfl)) ?_; (with_reducible refine (strings_Join.calls _ _ x5_61 (⟨#[32]⟩ : ByteArray) t156 _ ?side1 ?side2 A67.out).mono ?_); (case side1 => repeat (first | exact (Kd.R_reads' HO_5.out).2.2 | (with_reducible refine Kd.C_alloc ?_ _) | (with_reducible refine Kd.C_drewN ?_ _) | (with_reducible refine Kd.C_drew ?_))); (case side2 => exact (Kd.R_reads' HO_5.out).2.1); rintro e w70 ⟨rfl, hb⟩; refine ⟨_, rfl, ?_⟩; replace HO_5 := Aside0.mk (Kd.R_below (by (with_reducible repeat (first | apply Kd.R_alloc | apply Kd.R_drewN | apply Kd.R_drew)); exact HO_5.out) hb); replace BK117 := rB BK117 hb; replace HB := rS HB hb; (try clear hb); (try clear hk); ))
            go_ret2
            exact ⟨xR, bH HB.out⟩
           ·rw [if_neg c68] at H; have c68b0 : decide (160 < (t156.size : Int)) = false := decide_eq_false c68; have c68b1 : decide (160 < t156.size) = false := decide_eq_false (by omega); clear c68; simp only [Option.some.injEq, Prod.mk.injEq] at H; obtain ⟨rfl, rfl⟩ := H; obtain ⟨Ao71, co71, eo71⟩ := Kd.R_slice HO_5.out; subst eo71
            go_wp2_with (first | ((with_reducible refine gate_callee (f := 29) rfl ?_); refine goesL_ (some 80) rfl rfl Tryd.func29 (by kernel_rfl) rfl #[.slice Ao71 x5_61.length co71, .string (⟨#[32]⟩ : ByteArray)] rfl (by (try simp only [List.map_toArray, List.map_cons, List.map_nil]); first | done | rfl | (simp only [List.length_drop, List.length_take]; rfl)) ?_; (with_reducible refine (strings_Join.calls _ _ x5_61 (⟨#[32]⟩ : ByteArray) t156 _ ?side1 ?side2 A67.out).mono ?_); (case side1 => repeat (first | exact (Kd.R_reads' HO_5.out).2.2 | (with_reducible refine Kd.C_alloc ?_ _) | (with_reducible refine Kd.C_drewN ?_ _) | (with_reducible refine Kd.C_drew ?_))); (case side2 => exact (Kd.R_reads' HO_5.out).2.1); rintro e w72 ⟨rfl, hb⟩; refine ⟨_, rfl, ?_⟩; replace HO_5 := Aside0.mk (Kd.R_below (by (with_reducible repeat (first | apply Kd.R_alloc | apply Kd.R_drewN | apply Kd.R_drew)); exact HO_5.out) hb); replace BK117 := rB BK117 hb; replace HB := rS HB hb; (try clear hb); (try clear hk); ))
            go_ret2
            exact ⟨xR, bH HB.out⟩
    ·rw [if_neg c21] at H; exact absurd H (by simp)
 ·rw [if_neg c3] at H; have c3b0 : (t118 == 0) = false := beq_eq_false_iff_ne.mpr c3; have c3b1 : (t118 != 0) = true := bne_iff_ne.mpr c3; simp only [Option.some.injEq, Prod.mk.injEq] at H; obtain ⟨rfl, rfl⟩ := H; go_enter Tryd.func9, Tryd.ntmps9
  go_wp2_with (first | ((with_reducible refine gate_dst (N := 1) rfl ?_); refine bE 1 #[.int .i64 a0_0, .slice A0_1 l0_1.length c0_1, .int .u32 a0_2, .int .i64 a0_3, .string a0_4, .int .u64 a0_5, .int .u64 a0_6, .bool a0_7] 26 rfl rfl ?_; intro gb117 hg w73 hbox hb; have BK117 := rM hbox; have GW117 := rG HB hg; replace HB := rS HB hb; have GE117 := GW117; clear hb hbox hg; obtain ⟨hcz74, hfz74⟩ := d8 BK117) | ((with_reducible refine gate_callee (f := 23) rfl ?_); refine goesL_ (some 8) rfl rfl Tryd.func23 (by kernel_rfl) rfl #[.agg #[.int .i64 a0_0, .slice A0_1 l0_1.length c0_1, .int .u32 a0_2, .int .i64 a0_3, .string a0_4, .int .u64 a0_5, .int .u64 a0_6, .bool a0_7]] rfl (by (try simp only [List.map_toArray, List.map_cons, List.map_nil]); first | done | rfl | (simp only [List.length_drop, List.length_take]; rfl)) ?_; (with_reducible refine (verb_Check.calls k a0_0 _ _ l0_1 a0_2 a0_3 a0_4 a0_5 a0_6 a0_7 t118 _ ?side1 ?side2 A2.out).mono ?_); (case side1 => repeat (first | exact (Kd.C_below HR0_1.out HB.out) | (with_reducible refine Kd.C_alloc ?_ _) | (with_reducible refine Kd.C_drewN ?_ _) | (with_reducible refine Kd.C_drew ?_))); (case side2 => exact HC0_1.out); rintro e w75 ⟨rfl, hb⟩; refine ⟨_, rfl, ?_⟩; replace BK117 := rB BK117 hb; replace HB := rS HB hb; (try clear hb); (try clear hk); ))
  go_ret2
  exact ⟨xR, bH HB.out⟩

end Go.Proofs.YtbfgopinbpbddaaDoor.P
