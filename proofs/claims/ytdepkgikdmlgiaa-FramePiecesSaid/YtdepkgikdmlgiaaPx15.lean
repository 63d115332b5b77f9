/- Lean functions for the Go functions that the laws of this seat use, and the proofs that the Go code computes them; conditions: the readings that each theorem names. Written by a program. -/
import Derived.Test.YtdepkgikdmlgiaaPx0
import Derived.Test.YtdepkgikdmlgiaaPx3
import Derived.Test.YtdepkgikdmlgiaaShort
namespace Go.Proofs.Ytdepkgikdmlgiaa.P
open Go.RowKit Go.Proofs.YtdepkgikdmlgiaaW.PrintWords Go.Proofs.YtdepkgikdmlgiaaW.PrintLast Go.Proofs.YtdepkgikdmlgiaaW.PrintMore
set_option linter.unusedVariables false
set_option linter.unusedSimpArgs false

/-! ### tallboylaw18_Great: function 23 -/
/-! ### frame_table: function 57 -/
def frame_table.f  : Option ((List (S112))) := some (([(⟨0, 9, 1⟩ : S112), (⟨12, 13, 2⟩ : S112), (⟨1, 17, 5⟩ : S112), (⟨2, 18, 6⟩ : S112), (⟨3, 19, 7⟩ : S112), (⟨4, 20, 11⟩ : S112), (⟨5, 21, 12⟩ : S112), (⟨6, 22, 13⟩ : S112), (⟨8, 24, 15⟩ : S112), (⟨14, 25, 8⟩ : S112), (⟨15, 26, 9⟩ : S112), (⟨28, 0, 14⟩ : S112), (⟨29, 30, 3⟩ : S112)] : List (S112)))
set_option maxHeartbeats 8000000 in
set_option maxRecDepth 100000 in
theorem frame_table.calls  (r : List (S112)) (w : World) (h : frame_table.f  = some r) :
  Calls Try.prog 57 #[] w fun e w' => ∃ v0_ : Value, e = .returned (v0_) ∧ Kd.R k112 112 w' w.heap.size (fun _ => True) v0_ r ∧ Below w.heap.size w w' := by
 have hu112 := Try.underlying112; have HB := Aside0.mk (Below.refl w.heap.size w); have H : (some (([(⟨0, 9, 1⟩ : S112), (⟨12, 13, 2⟩ : S112), (⟨1, 17, 5⟩ : S112), (⟨2, 18, 6⟩ : S112), (⟨3, 19, 7⟩ : S112), (⟨4, 20, 11⟩ : S112), (⟨5, 21, 12⟩ : S112), (⟨6, 22, 13⟩ : S112), (⟨8, 24, 15⟩ : S112), (⟨14, 25, 8⟩ : S112), (⟨15, 26, 9⟩ : S112), (⟨28, 0, 14⟩ : S112), (⟨29, 30, 3⟩ : S112)] : List (S112)))) = some r := h; clear h; obtain ⟨y210, hy210⟩ : ∃ y_ : List (S112), y_ = (([(⟨0, 9, 1⟩ : S112), (⟨12, 13, 2⟩ : S112), (⟨1, 17, 5⟩ : S112), (⟨2, 18, 6⟩ : S112), (⟨3, 19, 7⟩ : S112), (⟨4, 20, 11⟩ : S112), (⟨5, 21, 12⟩ : S112), (⟨6, 22, 13⟩ : S112), (⟨8, 24, 15⟩ : S112), (⟨14, 25, 8⟩ : S112), (⟨15, 26, 9⟩ : S112), (⟨28, 0, 14⟩ : S112), (⟨29, 30, 3⟩ : S112)] : List (S112))) := ⟨_, rfl⟩; replace H : (some y210) = some r := by first | (rw [hy210]; with_reducible exact H) | (have H2_ := (Option.bind_some _ _).symm.trans H; rw [hy210]; with_reducible exact H2_) | (have H2_ := (Option.bind_some _ _).symm.trans H; with_reducible exact H2_) | with_reducible exact H | (rw [hy210]; exact H) | exact H
 have Ny210 := Aside0.mk hy210; clear hy210; obtain rfl := Option.some.inj H; go_enter Try.func57, Try.ntmps57
 go_wp2_with (first | ((with_reducible refine gate_dst (N := 14) rfl ?_); refine Kd.R_lit k112 _ 112 ?hg (N := 14) ?hd (xs := ([(⟨0, 9, 1⟩ : S112), (⟨12, 13, 2⟩ : S112), (⟨1, 17, 5⟩ : S112), (⟨2, 18, 6⟩ : S112), (⟨3, 19, 7⟩ : S112), (⟨4, 20, 11⟩ : S112), (⟨5, 21, 12⟩ : S112), (⟨6, 22, 13⟩ : S112), (⟨8, 24, 15⟩ : S112), (⟨14, 25, 8⟩ : S112), (⟨15, 26, 9⟩ : S112), (⟨28, 0, 14⟩ : S112), (⟨29, 30, 3⟩ : S112)] : List (S112))) (inner := [.int .u8 0, .int .u8 9, .int .i64 1, .int .u8 12, .int .u8 13, .int .i64 2, .int .u8 1, .int .u8 17, .int .i64 5, .int .u8 2, .int .u8 18, .int .i64 6, .int .u8 3, .int .u8 19, .int .i64 7, .int .u8 4, .int .u8 20, .int .i64 11, .int .u8 5, .int .u8 21, .int .i64 12, .int .u8 6, .int .u8 22, .int .i64 13, .int .u8 8, .int .u8 24, .int .i64 15, .int .u8 14, .int .u8 25, .int .i64 8, .int .u8 15, .int .u8 26, .int .i64 9, .int .u8 28, .int .u8 0, .int .i64 14, .int .u8 29, .int .u8 30, .int .i64 3]) (ok := fun _ => True) (okp := fun _ => True) ?hr ?hp (fun _ hk => hk) trivial (Below.refl _ _) (Nat.le_refl _) (by simp) ?_; (case hd => rfl); (case hg => rfl); (case hr => first | (go_simp; done) | (go_simp; rfl)); (case hp => exact (Reps.c3 (show Kd.M k112 _ _ _ (⟨0, 9, 1⟩ : S112) [.int .u8 0, .int .u8 9, .int .i64 1] from (k112_mkM _ _ _ (⟨0, 9, 1⟩ : S112) )) (Reps.c3 (show Kd.M k112 _ _ _ (⟨12, 13, 2⟩ : S112) [.int .u8 12, .int .u8 13, .int .i64 2] from (k112_mkM _ _ _ (⟨12, 13, 2⟩ : S112) )) (Reps.c3 (show Kd.M k112 _ _ _ (⟨1, 17, 5⟩ : S112) [.int .u8 1, .int .u8 17, .int .i64 5] from (k112_mkM _ _ _ (⟨1, 17, 5⟩ : S112) )) (Reps.c3 (show Kd.M k112 _ _ _ (⟨2, 18, 6⟩ : S112) [.int .u8 2, .int .u8 18, .int .i64 6] from (k112_mkM _ _ _ (⟨2, 18, 6⟩ : S112) )) (Reps.c3 (show Kd.M k112 _ _ _ (⟨3, 19, 7⟩ : S112) [.int .u8 3, .int .u8 19, .int .i64 7] from (k112_mkM _ _ _ (⟨3, 19, 7⟩ : S112) )) (Reps.c3 (show Kd.M k112 _ _ _ (⟨4, 20, 11⟩ : S112) [.int .u8 4, .int .u8 20, .int .i64 11] from (k112_mkM _ _ _ (⟨4, 20, 11⟩ : S112) )) (Reps.c3 (show Kd.M k112 _ _ _ (⟨5, 21, 12⟩ : S112) [.int .u8 5, .int .u8 21, .int .i64 12] from (k112_mkM _ _ _ (⟨5, 21, 12⟩ : S112) )) (Reps.c3 (show Kd.M k112 _ _ _ (⟨6, 22, 13⟩ : S112) [.int .u8 6, .int .u8 22, .int .i64 13] from (k112_mkM _ _ _ (⟨6, 22, 13⟩ : S112) )) (Reps.c3 (show Kd.M k112 _ _ _ (⟨8, 24, 15⟩ : S112) [.int .u8 8, .int .u8 24, .int .i64 15] from (k112_mkM _ _ _ (⟨8, 24, 15⟩ : S112) )) (Reps.c3 (show Kd.M k112 _ _ _ (⟨14, 25, 8⟩ : S112) [.int .u8 14, .int .u8 25, .int .i64 8] from (k112_mkM _ _ _ (⟨14, 25, 8⟩ : S112) )) (Reps.c3 (show Kd.M k112 _ _ _ (⟨15, 26, 9⟩ : S112) [.int .u8 15, .int .u8 26, .int .i64 9] from (k112_mkM _ _ _ (⟨15, 26, 9⟩ : S112) )) (Reps.c3 (show Kd.M k112 _ _ _ (⟨28, 0, 14⟩ : S112) [.int .u8 28, .int .u8 0, .int .i64 14] from (k112_mkM _ _ _ (⟨28, 0, 14⟩ : S112) )) (Reps.c3 (show Kd.M k112 _ _ _ (⟨29, 30, 3⟩ : S112) [.int .u8 29, .int .u8 30, .int .i64 3] from (k112_mkM _ _ _ (⟨29, 30, 3⟩ : S112) )) (Reps.none _ _))))))))))))))); intro v211 w1 ho2 hb hg_ hnew_; clear hg_ hnew_; (first | rw [← Ny210.out] at ho2 | (simp only [Int.reduceToNat] at ho2; rw [← Ny210.out] at ho2)); have HO212 := Aside0.mk (Kd.R_lower ho2 (below_size (bH HB.out))); replace HB := rS HB hb; clear hb ho2))
 go_ret
 exact ⟨_, xR, by (with_reducible repeat (first | apply Kd.R_alloc | apply Kd.R_drewN | apply Kd.R_drew)); exact HO212.out, bH HB.out⟩

/-! ### frame_find: function 43 -/
def frame_find.l0 : Nat → Int → List (S112) → Int → Int → Option (Int × Bool)
 | 0, _, _, _, _ => none
 | k + 1, x0, x6, x7, x8 => if x8 < x7 then (if 0 ≤ x8 then (if x8 < (x6.length : Int) then (if ((rd_T112 x6 x8).f0) = x0 then (some ((rd_T112 x6 x8).f2, false)) else (if ((rd_T112 x6 x8).f1) = x0 then (if ((rd_T112 x6 x8).f1) = 0 then (frame_find.l0 k x0 x6 x7 (wrap64 (x8 + 1))) else (some ((rd_T112 x6 x8).f2, true))) else (frame_find.l0 k x0 x6 x7 (wrap64 (x8 + 1))))) else (none)) else (none)) else (some (0, false))
def frame_find.f (k : Nat) (a0 : Int) : Option (Int × Bool) := (frame_table.f).bind fun t213 => (frame_find.l0 k a0 t213 (t213.length : Int) 0)
set_option maxHeartbeats 8000000 in
set_option maxRecDepth 100000 in
theorem frame_find.calls (k : Nat) (a0 : Int) (r1 : Int) (r2 : Bool) (w : World) (h : frame_find.f k a0 = some (r1, r2)) :
  Calls Try.prog 43 #[.int .u8 a0] w fun e w' => e = .returned (.tuple #[.int .i64 r1, .bool r2]) ∧ Below w.heap.size w w' := by
 have hu112 := Try.underlying112; have HB := Aside0.mk (Below.refl w.heap.size w); have H : ((frame_table.f).bind fun t213 => (frame_find.l0 k a0 t213 (t213.length : Int) 0)) = some (r1, r2) := h; clear h; replace H := Option.bind_eq_some_iff.mp H; obtain ⟨t213, A20, H⟩ := H; (try dsimp only at H); have A2 := Aside0.mk A20; clear A20; have H' := Aside0.mk H; clear H; go_enter Try.func43, Try.ntmps43
 go_wp2_with (first | ((with_reducible refine gate_callee (f := 57) rfl ?_); refine gL (some 6) rfl rfl Try.func57 #[] rfl ?_; (with_reducible refine (frame_table.calls  t213 _ A2.out).mono ?_); rintro e w3 ⟨v214, rfl, ho0, hb⟩; refine ⟨_, rfl, ?_⟩; have HO215 := Aside0.mk (Kd.R_lower ho0 (below_size (bH HB.out))); replace HB := rS HB hb; (try clear hb); (try clear hk); (try clear ho0); obtain ⟨Ao4, co4, eo4⟩ := Kd.R_slice HO215.out; subst eo4))
 go_loopg [8] k (fun kq v8 w' => ∃ (x8_1 : Int), v8 = .int .i64 x8_1 ∧ Aside0 (frame_find.l0 kq a0 t213 (t213.length : Int) x8_1 = some (r1, r2)) ∧ Aside0 (kq ≤ k) ∧ Aside0 (Kd.R k112 112 w' w.heap.size (fun _ => True) (.slice Ao4 t213.length co4) t213) ∧ Aside0 (Below w.heap.size w w'))
 case atStart => exact ⟨(0), (by first | rfl | (simp; done) | (simp [*]; done)), H', ⟨Nat.le_refl _⟩, ⟨by (with_reducible repeat (first | apply Kd.R_alloc | apply Kd.R_drewN | apply Kd.R_drew)); exact HO215.out⟩, ⟨bH HB.out⟩⟩
 case round =>
  clear H'; obtain ⟨x8_1, rfl, HA, HK1, HO_6, HB⟩ := hrel; cases gk with
  | zero => exact absurd HA.out (by simp [frame_find.l0])
  | succ k1 =>
   have H := HA.out; clear HA; simp only [frame_find.l0] at H
   by_cases c5 : x8_1 < (t213.length : Int)
   ·rw [if_pos c5] at H; have c5b0 : decide (x8_1 < (t213.length : Int)) = true := decide_eq_true c5; clear c5
    by_cases c6 : 0 ≤ x8_1
    ·rw [if_pos c6] at H; have c6b0 : decide (0 ≤ x8_1) = true := decide_eq_true c6; clear c6
     by_cases c7 : x8_1 < (t213.length : Int)
     ·rw [if_pos c7] at H; have c7b0 : decide (x8_1 < (t213.length : Int)) = true := decide_eq_true c7; clear c7
      by_cases c8 : ((rd_T112 t213 x8_1).f0) = a0
      ·rw [if_pos c8] at H; have c8b0 : (((rd_T112 t213 x8_1).f0) == a0) = true := beq_iff_eq.mpr c8; have c8b1 : (((rd_T112 t213 x8_1).f0) != a0) = false := bne_eq_false_iff_eq.mpr c8; clear c8; simp only [Option.some.injEq, Prod.mk.injEq] at H; obtain ⟨rfl, rfl⟩ := H; have p216 : 0 ≤ (x8_1 : Int) := of_decide_eq_true (by first | (with_reducible assumption) | assumption); have q216 : x8_1 < (t213.length : Int) := of_decide_eq_true (by first | (with_reducible assumption) | assumption)
       obtain ⟨ad216, e216, hx216_0, hx216_1, hx216_2⟩ := at_T112 (Kd.R_reads' HO_6.out).2.2 x8_1 p216 q216; cases e216; replace p216 := eq_true p216; replace q216 := eq_true q216
       go_wp2_with (first | ((with_reducible refine gate_dst (N := 5) rfl ?_); refine bE 5 #[.int .u8 0, .int .u8 0, .int .i64 0] 112 rfl rfl ?_; intro gb217 hg w9 hbox hb; replace HO_6 := Aside0.mk (Kd.R_below (Kd.R_elderB (by (with_reducible repeat (first | apply Kd.R_alloc | apply Kd.R_drewN | apply Kd.R_drew)); exact HO_6.out) gb217 (Nat.le_of_eq hg.symm)) hb); have BK217 := rM hbox; have GW217 := rG HB hg; replace HB := rS HB hb; have GE217 := GW217; clear hb hbox hg; obtain ⟨hcz10, hfz10⟩ := d3 BK217))
       go_ret2
       exact ⟨xR, bH HB.out⟩
      ·rw [if_neg c8] at H; have c8b0 : (((rd_T112 t213 x8_1).f0) == a0) = false := beq_eq_false_iff_ne.mpr c8; have c8b1 : (((rd_T112 t213 x8_1).f0) != a0) = true := bne_iff_ne.mpr c8
       by_cases c11 : ((rd_T112 t213 x8_1).f1) = a0
       ·rw [if_pos c11] at H; have c11b0 : (((rd_T112 t213 x8_1).f1) == a0) = true := beq_iff_eq.mpr c11; have c11b1 : (((rd_T112 t213 x8_1).f1) != a0) = false := bne_eq_false_iff_eq.mpr c11; clear c11
        by_cases c12 : ((rd_T112 t213 x8_1).f1) = 0
        ·rw [if_pos c12] at H; have c12b0 : (((rd_T112 t213 x8_1).f1) == 0) = true := beq_iff_eq.mpr c12; have c12b1 : (((rd_T112 t213 x8_1).f1) != 0) = false := bne_eq_false_iff_eq.mpr c12; clear c12; have H' := Aside0.mk H; clear H; have p216 : 0 ≤ (x8_1 : Int) := of_decide_eq_true (by first | (with_reducible assumption) | assumption); have q216 : x8_1 < (t213.length : Int) := of_decide_eq_true (by first | (with_reducible assumption) | assumption)
         obtain ⟨ad216, e216, hx216_0, hx216_1, hx216_2⟩ := at_T112 (Kd.R_reads' HO_6.out).2.2 x8_1 p216 q216; cases e216; replace p216 := eq_true p216; replace q216 := eq_true q216
         go_wp2_with (first | ((with_reducible refine gate_dst (N := 5) rfl ?_); refine bE 5 #[.int .u8 0, .int .u8 0, .int .i64 0] 112 rfl rfl ?_; intro gb217 hg w13 hbox hb; replace HO_6 := Aside0.mk (Kd.R_below (Kd.R_elderB (by (with_reducible repeat (first | apply Kd.R_alloc | apply Kd.R_drewN | apply Kd.R_drew)); exact HO_6.out) gb217 (Nat.le_of_eq hg.symm)) hb); have BK217 := rM hbox; have GW217 := rG HB hg; replace HB := rS HB hb; have GE217 := GW217; clear hb hbox hg; obtain ⟨hcz14, hfz14⟩ := d3 BK217))
         go_roundg k1
         case measure => have := HK1.out; omega
         case rel => exact ⟨(wrap64 (x8_1 + 1)), (by first | rfl | (simp; done) | (simp [*]; done)), H', ⟨by have := HK1.out; omega⟩, ⟨by (with_reducible repeat (first | apply Kd.R_alloc | apply Kd.R_drewN | apply Kd.R_drew)); exact Kd.R_mono (Kd.R_far (p := ⟨gb217, 2, none⟩) (Kd.R_far (p := ⟨gb217, 1, none⟩) (Kd.R_far (p := ⟨gb217, 0, none⟩) (Kd.R_mono HO_6.out (fun k_ hk => (⟨hk, hk.2⟩ : _ ∧ k_ ≠ gb217))) (fun _ hk => hk.2) (.int .u8 ((rd_T112 t213 x8_1).f0))) (fun _ hk => hk.2) (.int .u8 ((rd_T112 t213 x8_1).f1))) (fun _ hk => hk.2) (.int .i64 ((rd_T112 t213 x8_1).f2))) (fun _ hk => trivial)⟩, ⟨bH HB.out⟩⟩
        ·rw [if_neg c12] at H; have c12b0 : (((rd_T112 t213 x8_1).f1) == 0) = false := beq_eq_false_iff_ne.mpr c12; have c12b1 : (((rd_T112 t213 x8_1).f1) != 0) = true := bne_iff_ne.mpr c12; simp only [Option.some.injEq, Prod.mk.injEq] at H; obtain ⟨rfl, rfl⟩ := H; have p216 : 0 ≤ (x8_1 : Int) := of_decide_eq_true (by first | (with_reducible assumption) | assumption); have q216 : x8_1 < (t213.length : Int) := of_decide_eq_true (by first | (with_reducible assumption) | assumption)
         obtain ⟨ad216, e216, hx216_0, hx216_1, hx216_2⟩ := at_T112 (Kd.R_reads' HO_6.out).2.2 x8_1 p216 q216; cases e216; replace p216 := eq_true p216; replace q216 := eq_true q216
         go_wp2_with (first | ((with_reducible refine gate_dst (N := 5) rfl ?_); refine bE 5 #[.int .u8 0, .int .u8 0, .int .i64 0] 112 rfl rfl ?_; intro gb217 hg w15 hbox hb; replace HO_6 := Aside0.mk (Kd.R_below (Kd.R_elderB (by (with_reducible repeat (first | apply Kd.R_alloc | apply Kd.R_drewN | apply Kd.R_drew)); exact HO_6.out) gb217 (Nat.le_of_eq hg.symm)) hb); have BK217 := rM hbox; have GW217 := rG HB hg; replace HB := rS HB hb; have GE217 := GW217; clear hb hbox hg; obtain ⟨hcz16, hfz16⟩ := d3 BK217))
         go_ret2
         exact ⟨xR, bH HB.out⟩
       ·rw [if_neg c11] at H; have c11b0 : (((rd_T112 t213 x8_1).f1) == a0) = false := beq_eq_false_iff_ne.mpr c11; have c11b1 : (((rd_T112 t213 x8_1).f1) != a0) = true := bne_iff_ne.mpr c11; have H' := Aside0.mk H; clear H; have p216 : 0 ≤ (x8_1 : Int) := of_decide_eq_true (by first | (with_reducible assumption) | assumption); have q216 : x8_1 < (t213.length : Int) := of_decide_eq_true (by first | (with_reducible assumption) | assumption)
        obtain ⟨ad216, e216, hx216_0, hx216_1, hx216_2⟩ := at_T112 (Kd.R_reads' HO_6.out).2.2 x8_1 p216 q216; cases e216; replace p216 := eq_true p216; replace q216 := eq_true q216
        go_wp2_with (first | ((with_reducible refine gate_dst (N := 5) rfl ?_); refine bE 5 #[.int .u8 0, .int .u8 0, .int .i64 0] 112 rfl rfl ?_; intro gb217 hg w17 hbox hb; replace HO_6 := Aside0.mk (Kd.R_below (Kd.R_elderB (by (with_reducible repeat (first | apply Kd.R_alloc | apply Kd.R_drewN | apply Kd.R_drew)); exact HO_6.out) gb217 (Nat.le_of_eq hg.symm)) hb); have BK217 := rM hbox; have GW217 := rG HB hg; replace HB := rS HB hb; have GE217 := GW217; clear hb hbox hg; obtain ⟨hcz18, hfz18⟩ := d3 BK217))
        go_roundg k1
        case measure => have := HK1.out; omega
        case rel => exact ⟨(wrap64 (x8_1 + 1)), (by first | rfl | (simp; done) | (simp [*]; done)), H', ⟨by have := HK1.out; omega⟩, ⟨by (with_reducible repeat (first | apply Kd.R_alloc | apply Kd.R_drewN | apply Kd.R_drew)); exact Kd.R_mono (Kd.R_far (p := ⟨gb217, 2, none⟩) (Kd.R_far (p := ⟨gb217, 1, none⟩) (Kd.R_far (p := ⟨gb217, 0, none⟩) (Kd.R_mono HO_6.out (fun k_ hk => (⟨hk, hk.2⟩ : _ ∧ k_ ≠ gb217))) (fun _ hk => hk.2) (.int .u8 ((rd_T112 t213 x8_1).f0))) (fun _ hk => hk.2) (.int .u8 ((rd_T112 t213 x8_1).f1))) (fun _ hk => hk.2) (.int .i64 ((rd_T112 t213 x8_1).f2))) (fun _ hk => trivial)⟩, ⟨bH HB.out⟩⟩
     ·rw [if_neg c7] at H; exact absurd H (by simp)
    ·rw [if_neg c6] at H; exact absurd H (by simp)
   ·rw [if_neg c5] at H; have c5b0 : decide (x8_1 < (t213.length : Int)) = false := decide_eq_false c5; clear c5; simp only [Option.some.injEq, Prod.mk.injEq] at H; obtain ⟨rfl, rfl⟩ := H; go_wp2
    go_ret2
    exact ⟨xR, bH HB.out⟩

/-! ### frame_status: function 44 -/
mutual
def frame_status.j0 : Nat → Int → Bool → Option (Int)
 | 0, _, _ => none
 | k + 1, x3, x4 => if x4 = true then (some 0) else (if x3 = 1 then (frame_status.j1 k x3 (x3 == 1)) else (frame_status.j1 k x3 (x3 == 5)))
def frame_status.j1 : Nat → Int → Bool → Option (Int)
 | 0, _, _ => none
 | k + 1, x3, x10 => if x10 = true then (some 1) else (if x3 = 3 then (some 5) else (if x3 = 4 then (some 2) else (if x3 = 8 then (some 6) else (if x3 = 11 then (some 130) else (if x3 = 12 then (some 3) else (some 4))))))
end
def frame_status.f (k : Nat) (a0 : Int) : Option (Int) := if a0 = 2 then (frame_status.j0 k a0 (a0 == 2)) else (if a0 = 6 then (frame_status.j0 k a0 (a0 == 6)) else (if a0 = 7 then (frame_status.j0 k a0 (a0 == 7)) else (if a0 = 9 then (frame_status.j0 k a0 (a0 == 9)) else (frame_status.j0 k a0 (a0 == 10)))))
set_option maxHeartbeats 8000000 in
set_option maxRecDepth 100000 in
theorem frame_status.calls (k : Nat) (a0 : Int) (r : Int) (w : World) (h : frame_status.f k a0 = some r) :
  Calls Try.prog 44 #[.int .i64 a0] w fun e w' => e = .returned (.int .u16 r) ∧ Drawn0 w w' := by
 have H : (if a0 = 2 then (frame_status.j0 k a0 (a0 == 2)) else (if a0 = 6 then (frame_status.j0 k a0 (a0 == 6)) else (if a0 = 7 then (frame_status.j0 k a0 (a0 == 7)) else (if a0 = 9 then (frame_status.j0 k a0 (a0 == 9)) else (frame_status.j0 k a0 (a0 == 10)))))) = some r := h; clear h; have HC2 := Aside0.mk H; clear H; go_enter Try.func44, Try.ntmps44
 go_upto_if 4 with (fail)
 go_cut [4] (fun v4 wc => ∃ (kq : Nat) (x4_1 : Bool), v4 = .bool x4_1 ∧ Aside0 (frame_status.j0 kq a0 x4_1 = some r) ∧ Aside0 (kq ≤ k) ∧ Drawn0 w wc)
 case first =>
  have H := HC2.out; clear HC2
  by_cases c3 : a0 = 2
  ·rw [if_pos c3] at H; have c3b0 : (a0 == 2) = true := beq_iff_eq.mpr c3; have c3b1 : (a0 != 2) = false := bne_eq_false_iff_eq.mpr c3; clear c3
   (first | rw [c3b0] | (simp only [i64_w, i32_w]; rw [c3b0]) | skip)
   have H' := Aside0.mk H; clear H; go_wp2
   go_meet
   case rel => exact ⟨_, ((a0 == 2)), (by first | rfl | (simp; done) | (simp [*]; done)), H', ⟨by first | omega | exact Nat.le_refl _⟩, by repeat (first | exact Drawn0.refl _ | apply Drawn0.step)⟩
  ·rw [if_neg c3] at H; have c3b0 : (a0 == 2) = false := beq_eq_false_iff_ne.mpr c3; have c3b1 : (a0 != 2) = true := bne_iff_ne.mpr c3
   (first | rw [c3b0] | (simp only [i64_w, i32_w]; rw [c3b0]) | skip)
   by_cases c4 : a0 = 6
   ·rw [if_pos c4] at H; have c4b0 : (a0 == 6) = true := beq_iff_eq.mpr c4; have c4b1 : (a0 != 6) = false := bne_eq_false_iff_eq.mpr c4; clear c4; have H' := Aside0.mk H; clear H; go_wp2
    go_meet
    case rel => exact ⟨_, ((a0 == 6)), (by first | rfl | (simp; done) | (simp [*]; done)), H', ⟨by first | omega | exact Nat.le_refl _⟩, by repeat (first | exact Drawn0.refl _ | apply Drawn0.step)⟩
   ·rw [if_neg c4] at H; have c4b0 : (a0 == 6) = false := beq_eq_false_iff_ne.mpr c4; have c4b1 : (a0 != 6) = true := bne_iff_ne.mpr c4
    by_cases c5 : a0 = 7
    ·rw [if_pos c5] at H; have c5b0 : (a0 == 7) = true := beq_iff_eq.mpr c5; have c5b1 : (a0 != 7) = false := bne_eq_false_iff_eq.mpr c5; clear c5; have H' := Aside0.mk H; clear H; go_wp2
     go_meet
     case rel => exact ⟨_, ((a0 == 7)), (by first | rfl | (simp; done) | (simp [*]; done)), H', ⟨by first | omega | exact Nat.le_refl _⟩, by repeat (first | exact Drawn0.refl _ | apply Drawn0.step)⟩
    ·rw [if_neg c5] at H; have c5b0 : (a0 == 7) = false := beq_eq_false_iff_ne.mpr c5; have c5b1 : (a0 != 7) = true := bne_iff_ne.mpr c5
     by_cases c6 : a0 = 9
     ·rw [if_pos c6] at H; have c6b0 : (a0 == 9) = true := beq_iff_eq.mpr c6; have c6b1 : (a0 != 9) = false := bne_eq_false_iff_eq.mpr c6; clear c6; have H' := Aside0.mk H; clear H; go_wp2
      go_meet
      case rel => exact ⟨_, ((a0 == 9)), (by first | rfl | (simp; done) | (simp [*]; done)), H', ⟨by first | omega | exact Nat.le_refl _⟩, by repeat (first | exact Drawn0.refl _ | apply Drawn0.step)⟩
     ·rw [if_neg c6] at H; have c6b0 : (a0 == 9) = false := beq_eq_false_iff_ne.mpr c6; have c6b1 : (a0 != 9) = true := bne_iff_ne.mpr c6; have H' := Aside0.mk H; clear H; go_wp2
      go_meet
      case rel => exact ⟨_, ((a0 == 10)), (by first | rfl | (simp; done) | (simp [*]; done)), H', ⟨by first | omega | exact Nat.le_refl _⟩, by repeat (first | exact Drawn0.refl _ | apply Drawn0.step)⟩
 case rest =>
  clear HC2; (try clear c3); (try clear c3b0); (try clear c3b1); (try clear c4); (try clear c4b0); (try clear c4b1); (try clear c5); (try clear c5b0); (try clear c5b1); (try clear c6); (try clear c6b0); (try clear c6b1); obtain ⟨kq, x4_1, rfl, HA, HJ1, ⟨mc1, rfl⟩⟩ := hcut; cases kq with
  | zero => exact absurd HA.out (by simp [frame_status.j0])
  | succ kj1 =>
   have H := HA.out; clear HA; simp only [frame_status.j0] at H
   by_cases c7 : x4_1 = true
   ·subst c7; rw [if_pos rfl] at H; obtain rfl := Option.some.inj H; go_wp2; go_ret
    exact ⟨by first | rfl | (simp; done) | (simp [*]; done), by repeat (first | exact Drawn0.refl _ | apply Drawn0.step)⟩
   ·replace c7 := Bool.eq_false_iff.mpr c7; subst c7; rw [if_neg (show ¬ (false = true) by decide)] at H; have HC8 := Aside0.mk H; clear H
    go_upto_if 10 with (fail)
    go_cut [10] (fun v10 wc => ∃ (kq : Nat) (x10_7 : Bool), v10 = .bool x10_7 ∧ Aside0 (frame_status.j1 kq a0 x10_7 = some r) ∧ Aside0 (kq ≤ kj1) ∧ Drawn0 w wc)
    case first =>
     have H := HC8.out; clear HC8
     by_cases c9 : a0 = 1
     ·rw [if_pos c9] at H; have c9b0 : (a0 == 1) = true := beq_iff_eq.mpr c9; have c9b1 : (a0 != 1) = false := bne_eq_false_iff_eq.mpr c9; clear c9
      (first | rw [c9b0] | (simp only [i64_w, i32_w]; rw [c9b0]) | skip)
      have H' := Aside0.mk H; clear H; go_wp2
      go_meet
      case rel => exact ⟨_, ((a0 == 1)), (by first | rfl | (simp; done) | (simp [*]; done)), H', ⟨by have := HJ1.out; first | omega | exact Nat.le_refl _⟩, by repeat (first | exact Drawn0.refl _ | apply Drawn0.step)⟩
     ·rw [if_neg c9] at H; have c9b0 : (a0 == 1) = false := beq_eq_false_iff_ne.mpr c9; have c9b1 : (a0 != 1) = true := bne_iff_ne.mpr c9
      (first | rw [c9b0] | (simp only [i64_w, i32_w]; rw [c9b0]) | skip)
      have H' := Aside0.mk H; clear H; go_wp2
      go_meet
      case rel => exact ⟨_, ((a0 == 5)), (by first | rfl | (simp; done) | (simp [*]; done)), H', ⟨by have := HJ1.out; first | omega | exact Nat.le_refl _⟩, by repeat (first | exact Drawn0.refl _ | apply Drawn0.step)⟩
    case rest =>
     clear HC8; (try clear c3); (try clear c3b0); (try clear c3b1); (try clear c4); (try clear c4b0); (try clear c4b1); (try clear c5); (try clear c5b0); (try clear c5b1); (try clear c6); (try clear c6b0); (try clear c6b1); (try clear c7); (try clear c9); (try clear c9b0); (try clear c9b1); obtain ⟨kq, x10_7, rfl, HA, HJ7, ⟨mc7, rfl⟩⟩ := hcut; cases kq with
     | zero => exact absurd HA.out (by simp [frame_status.j1])
     | succ kj7 =>
      have H := HA.out; clear HA; simp only [frame_status.j1] at H
      by_cases c10 : x10_7 = true
      ·subst c10; rw [if_pos rfl] at H; obtain rfl := Option.some.inj H; go_wp2; go_ret
       exact ⟨by first | rfl | (simp; done) | (simp [*]; done), by repeat (first | exact Drawn0.refl _ | apply Drawn0.step)⟩
      ·replace c10 := Bool.eq_false_iff.mpr c10; subst c10; rw [if_neg (show ¬ (false = true) by decide)] at H
       by_cases c11 : a0 = 3
       ·rw [if_pos c11] at H; have c11b0 : (a0 == 3) = true := beq_iff_eq.mpr c11; have c11b1 : (a0 != 3) = false := bne_eq_false_iff_eq.mpr c11; clear c11; obtain rfl := Option.some.inj H; go_wp2; go_ret
        exact ⟨by first | rfl | (simp; done) | (simp [*]; done), by repeat (first | exact Drawn0.refl _ | apply Drawn0.step)⟩
       ·rw [if_neg c11] at H; have c11b0 : (a0 == 3) = false := beq_eq_false_iff_ne.mpr c11; have c11b1 : (a0 != 3) = true := bne_iff_ne.mpr c11
        by_cases c12 : a0 = 4
        ·rw [if_pos c12] at H; have c12b0 : (a0 == 4) = true := beq_iff_eq.mpr c12; have c12b1 : (a0 != 4) = false := bne_eq_false_iff_eq.mpr c12; clear c12; obtain rfl := Option.some.inj H; go_wp2; go_ret
         exact ⟨by first | rfl | (simp; done) | (simp [*]; done), by repeat (first | exact Drawn0.refl _ | apply Drawn0.step)⟩
        ·rw [if_neg c12] at H; have c12b0 : (a0 == 4) = false := beq_eq_false_iff_ne.mpr c12; have c12b1 : (a0 != 4) = true := bne_iff_ne.mpr c12
         by_cases c13 : a0 = 8
         ·rw [if_pos c13] at H; have c13b0 : (a0 == 8) = true := beq_iff_eq.mpr c13; have c13b1 : (a0 != 8) = false := bne_eq_false_iff_eq.mpr c13; clear c13; obtain rfl := Option.some.inj H; go_wp2; go_ret
          exact ⟨by first | rfl | (simp; done) | (simp [*]; done), by repeat (first | exact Drawn0.refl _ | apply Drawn0.step)⟩
         ·rw [if_neg c13] at H; have c13b0 : (a0 == 8) = false := beq_eq_false_iff_ne.mpr c13; have c13b1 : (a0 != 8) = true := bne_iff_ne.mpr c13
          by_cases c14 : a0 = 11
          ·rw [if_pos c14] at H; have c14b0 : (a0 == 11) = true := beq_iff_eq.mpr c14; have c14b1 : (a0 != 11) = false := bne_eq_false_iff_eq.mpr c14; clear c14; obtain rfl := Option.some.inj H; go_wp2; go_ret
           exact ⟨by first | rfl | (simp; done) | (simp [*]; done), by repeat (first | exact Drawn0.refl _ | apply Drawn0.step)⟩
          ·rw [if_neg c14] at H; have c14b0 : (a0 == 11) = false := beq_eq_false_iff_ne.mpr c14; have c14b1 : (a0 != 11) = true := bne_iff_ne.mpr c14
           by_cases c15 : a0 = 12
           ·rw [if_pos c15] at H; have c15b0 : (a0 == 12) = true := beq_iff_eq.mpr c15; have c15b1 : (a0 != 12) = false := bne_eq_false_iff_eq.mpr c15; clear c15; obtain rfl := Option.some.inj H; go_wp2; go_ret
            exact ⟨by first | rfl | (simp; done) | (simp [*]; done), by repeat (first | exact Drawn0.refl _ | apply Drawn0.step)⟩
           ·rw [if_neg c15] at H; have c15b0 : (a0 == 12) = false := beq_eq_false_iff_ne.mpr c15; have c15b1 : (a0 != 12) = true := bne_iff_ne.mpr c15; obtain rfl := Option.some.inj H; go_wp2; go_ret
            exact ⟨by first | rfl | (simp; done) | (simp [*]; done), by repeat (first | exact Drawn0.refl _ | apply Drawn0.step)⟩

/-! ### frame_reads: function 45 -/
def frame_reads.f (a0 : Int) : Option (Bool) := if a0 ≥ 1 then (some (decide (a0 ≤ 4))) else (some false)
set_option maxHeartbeats 8000000 in
set_option maxRecDepth 100000 in
theorem frame_reads.calls (a0 : Int) (r : Bool) (w : World) (h : frame_reads.f a0 = some r) :
  Calls Try.prog 45 #[.int .i64 a0] w fun e w' => e = .returned (.bool r) ∧ Drawn0 w w' := by
 have H : (if a0 ≥ 1 then (some (decide (a0 ≤ 4))) else (some false)) = some r := h; clear h
 by_cases c2 : a0 ≥ 1
 ·rw [if_pos c2] at H; have c2b0 : decide (1 ≤ a0) = true := decide_eq_true c2; clear c2; obtain rfl := Option.some.inj H; go_enter Try.func45, Try.ntmps45; go_wp2; go_ret
  exact ⟨by first | rfl | (simp; done) | (simp [*]; done), by repeat (first | exact Drawn0.refl _ | apply Drawn0.step)⟩
 ·rw [if_neg c2] at H; have c2b0 : decide (1 ≤ a0) = false := decide_eq_false c2; clear c2; obtain rfl := Option.some.inj H; go_enter Try.func45, Try.ntmps45; go_wp2; go_ret
  exact ⟨by first | rfl | (simp; done) | (simp [*]; done), by repeat (first | exact Drawn0.refl _ | apply Drawn0.step)⟩

/-! ### frame_number: function 46 -/
def frame_number.f (k : Nat) (a0 : Int) (a1 : Int) : Option (ByteArray) := if 0 ≤ a1 then (if (a1 : Int).toNat ≤ 281474976710656 then ((frame_put.f k (List.replicate (a1 : Int).toNat 0) a0).bind fun t221 => (some (strOfNums t221))) else (none)) else (none)
set_option maxHeartbeats 8000000 in
set_option maxRecDepth 100000 in
theorem frame_number.calls (k : Nat) (a0 : Int) (a1 : Int) (r : ByteArray) (w : World) (h : frame_number.f k a0 a1 = some r) :
  Calls Try.prog 46 #[.int .u64 a0, .int .i64 a1] w fun e w' => e = .returned (.string r) ∧ Below w.heap.size w w' := by
 have HB := Aside0.mk (Below.refl w.heap.size w); have H : (if 0 ≤ a1 then (if (a1 : Int).toNat ≤ 281474976710656 then ((frame_put.f k (List.replicate (a1 : Int).toNat 0) a0).bind fun t221 => (some (strOfNums t221))) else (none)) else (none)) = some r := h; clear h
 by_cases c3 : 0 ≤ a1
 ·rw [if_pos c3] at H; have c3b0 := eq_true c3; have c3b1 : decide (0 ≤ a1) = true := decide_eq_true c3; clear c3
  by_cases c4 : (a1 : Int).toNat ≤ 281474976710656
  ·rw [if_pos c4] at H; have c4b0 := eq_true c4; have c4b1 : decide ((a1 : Int).toNat ≤ 281474976710656) = true := decide_eq_true c4; clear c4; obtain ⟨y218, hy218⟩ : ∃ y_ : List Int, y_ = (List.replicate (a1 : Int).toNat 0) := ⟨_, rfl⟩; replace H : ((frame_put.f k y218 a0).bind fun t221 => (some (strOfNums t221))) = some r := by first | (rw [hy218]; with_reducible exact H) | (have H2_ := (Option.bind_some _ _).symm.trans H; rw [hy218]; with_reducible exact H2_) | (have H2_ := (Option.bind_some _ _).symm.trans H; with_reducible exact H2_) | with_reducible exact H | (rw [hy218]; exact H) | exact H
   have Ny218 := Aside0.mk hy218; clear hy218; replace H := Option.bind_eq_some_iff.mp H; obtain ⟨t221, A50, H⟩ := H; (try dsimp only at H); have A5 := Aside0.mk A50; clear A50; obtain rfl := Option.some.inj H; go_enter Try.func46, Try.ntmps46
   go_wp2_with (first | ((with_reducible refine gate_dst (N := 7) rfl ?_); refine Kd.R_make (Kd.int .u8) _ 5 rfl (N := 7) rfl 46 _ _ rfl a1 rfl rfl Try.underlying46 (.int .u8 0) 1 info5 rfl (by decide) (by omega) 0 (ok := fun _ => True) (okp := fun _ => True) rfl (fun _ hk => hk) trivial (of_decide_eq_true (by first | (with_reducible assumption) | assumption)) (Nat.le_trans (Nat.mul_le_mul_right _ (of_decide_eq_true (by first | (with_reducible assumption) | assumption) : a1.toNat ≤ 281474976710656)) (by omega)) (Below.refl _ _) (Nat.le_refl _) ?_; intro v219 w6 ho7 hb hg_ hnew_; clear hg_ hnew_; (first | rw [← Ny218.out] at ho7 | (simp only [Int.reduceToNat] at ho7; rw [← Ny218.out] at ho7)); have HO220 := Aside0.mk (Kd.R_lower ho7 (below_size (bH HB.out))); replace HB := rS HB hb; clear hb ho7; obtain ⟨Ao8, co8, eo8⟩ := Kd.R_slice HO220.out; subst eo8) | ((with_reducible refine gate_callee (f := 38) rfl ?_); refine gL (some 10) rfl rfl Try.func38 #[.slice Ao8 y218.length co8, .int .u64 a0] rfl ?_; (with_reducible refine (frame_put.calls k (fun k_ => some k_ = (.slice Ao8 y218.length co8 : Value).ownBlock) (.slice Ao8 y218.length co8) y218 a0 t221 w _ ?side1 ?side2 A5.out).mono ?_); (case side1 => repeat (first | (with_reducible first | exact HB.out | apply eA | apply eN | apply eD) | exact HB.out)); (case side2 => exact Kd.R_tight rfl HO220.out); rintro e w9 ⟨rfl, hy0, hb, hkp⟩; refine ⟨_, rfl, ?_⟩; replace HO220 := Aside0.mk (Kd.R_reok rfl hy0 (fun k_ e_ => HO220.out.1 k_ e_)); replace HB := Aside0.mk (hb); (try clear hb); (try clear hkp); (try clear hy0); have hcv10 := own_string (P := Try.prog) Try.underlying46 Try.underlying5 Try.underlying9 (Kd.own_of_R HO220.out)))
   go_ret
   exact ⟨xR, bH HB.out⟩
  ·rw [if_neg c4] at H; exact absurd H (by simp)
 ·rw [if_neg c3] at H; exact absurd H (by simp)

/-! ### frame_Reply: function 24 -/
mutual
def frame_Reply.j0 : Nat → Int → Int → Bool → Bool → Bool → Int → Int → Int → Int → ByteArray → ByteArray → ByteArray → Int → List (S102) → Int → Bool → Int → Int → Int → Int → ByteArray → ByteArray → ByteArray → Option (Bool × Int × Int × Int × Int × ByteArray × ByteArray × ByteArray × Bool)
 | 0, _, _, _, _, _, _, _, _, _, _, _, _, _, _, _, _, _, _, _, _, _, _, _ => none
 | k + 1, x2, x8, x9, x11, zc, zd, ze, zf, zg, zh, za, zi, z9, z6, zb, z1, z2, z0, z3, z7, z4, z8, z5 => if x9 = true then (if z9 = 1 then (frame_Reply.j1 k x2 x8 x11 (!x11) zc zd ze zf zg zh za zi z9 z6 zb z1 z2 z0 z3 z7 z4 z8 z5) else (frame_Reply.j1 k x2 x8 x11 false zc zd ze zf zg zh za zi z9 z6 zb z1 z2 z0 z3 z7 z4 z8 z5)) else (frame_Reply.j3 k x2 x8 x11 zc zd ze zf zg zh za zi z9 z6 zb z1 z2 z0 z3 z7 z4 z8 z5)
def frame_Reply.j3 : Nat → Int → Int → Bool → Bool → Int → Int → Int → Int → ByteArray → ByteArray → ByteArray → Int → List (S102) → Int → Bool → Int → Int → Int → Int → ByteArray → ByteArray → ByteArray → Option (Bool × Int × Int × Int × Int × ByteArray × ByteArray × ByteArray × Bool)
 | 0, _, _, _, _, _, _, _, _, _, _, _, _, _, _, _, _, _, _, _, _, _, _ => none
 | k + 1, x2, x8, x11, zc, zd, ze, zf, zg, zh, za, zi, z9, z6, zb, z1, z2, z0, z3, z7, z4, z8, z5 => if x11 = true then (if 0 < (z6.length : Int) then ((frame_number.f k (IntKind.u64.wrap ((rd_T102 z6 0).f1)) 4).bind fun t234 => (frame_Reply.j4 k x8 z1 z2 0 z3 ((rd_T102 z6 0).f3) t234 ((rd_T102 z6 0).f0) ((rd_T102 z6 0).f2))) else (none)) else (if z0 = 1 then (frame_Reply.j4 k x8 z1 z2 z0 z3 z7 z4 za z5) else (if z9 = 7 then ((frame_number.f k zb 8).bind fun t235 => (frame_Reply.j4 k x8 z1 z2 z0 z3 x2 z4 z8 t235)) else (if z9 = 2 then (frame_Reply.j4 k x8 z1 z2 z0 z3 x2 z4 z8 z5) else (frame_Reply.j4 k x8 z1 z2 z0 z3 z7 z4 z8 z5))))
def frame_Reply.j4 : Nat → Int → Bool → Int → Int → Int → Int → ByteArray → ByteArray → ByteArray → Option (Bool × Int × Int × Int × Int × ByteArray × ByteArray × ByteArray × Bool)
 | 0, _, _, _, _, _, _, _, _, _ => none
 | k + 1, x8, z1, z2, z0, z3, z7, z4, z8, z5 => if x8 = 2 then (some (z1, z2, z0, z3, z7, z4, z8, z5, true)) else (some (z1, z2, z0, z3, z7, z4, (⟨#[]⟩ : ByteArray), z5, true))
def frame_Reply.j1 : Nat → Int → Int → Bool → Bool → Bool → Int → Int → Int → Int → ByteArray → ByteArray → ByteArray → Int → List (S102) → Int → Bool → Int → Int → Int → Int → ByteArray → ByteArray → ByteArray → Option (Bool × Int × Int × Int × Int × ByteArray × ByteArray × ByteArray × Bool)
 | 0, _, _, _, _, _, _, _, _, _, _, _, _, _, _, _, _, _, _, _, _, _, _, _ => none
 | k + 1, x2, x8, x11, x12, zc, zd, ze, zf, zg, zh, za, zi, z9, z6, zb, z1, z2, z0, z3, z7, z4, z8, z5 => (frame_reads.f x8).bind fun t229 => (if t229 = true then (if x12 = true then (frame_Reply.j2 k x2 x8 x11 true zc zd ze zf zg zh za zi z9 z6 zb z1 z2 z0 z3 z7 z4 z8 z5) else ((frame_reads.f x8).bind fun t230 => (if t230 = true then (frame_Reply.j2 k x2 x8 x11 false zc zd ze zf zg zh za zi z9 z6 zb z1 z2 z0 z3 z7 z4 z8 z5) else (frame_Reply.j2 k x2 x8 x11 (z0 == 0) zc zd ze zf zg zh za zi z9 z6 zb z1 z2 z0 z3 z7 z4 z8 z5)))) else ((frame_reads.f x8).bind fun t231 => (if t231 = true then (frame_Reply.j2 k x2 x8 x11 false zc zd ze zf zg zh za zi z9 z6 zb z1 z2 z0 z3 z7 z4 z8 z5) else (frame_Reply.j2 k x2 x8 x11 (z0 == 0) zc zd ze zf zg zh za zi z9 z6 zb z1 z2 z0 z3 z7 z4 z8 z5))))
def frame_Reply.j2 : Nat → Int → Int → Bool → Bool → Bool → Int → Int → Int → Int → ByteArray → ByteArray → ByteArray → Int → List (S102) → Int → Bool → Int → Int → Int → Int → ByteArray → ByteArray → ByteArray → Option (Bool × Int × Int × Int × Int × ByteArray × ByteArray × ByteArray × Bool)
 | 0, _, _, _, _, _, _, _, _, _, _, _, _, _, _, _, _, _, _, _, _, _, _, _ => none
 | k + 1, x2, x8, x11, x59, zc, zd, ze, zf, zg, zh, za, zi, z9, z6, zb, z1, z2, z0, z3, z7, z4, z8, z5 => if x59 = true then (some (false, 0, 0, 0, 0, (⟨#[]⟩ : ByteArray), (⟨#[]⟩ : ByteArray), (⟨#[]⟩ : ByteArray), false)) else (frame_Reply.j3 k x2 x8 x11 zc zd ze zf zg zh za zi z9 z6 zb z1 z2 z0 z3 z7 z4 z8 z5)
end
def frame_Reply.f (k : Nat) (a0_0 : Bool) (a0_1 : Int) (a0_2 : Int) (a0_3 : Int) (a0_4 : Int) (a0_5 : ByteArray) (a0_6 : ByteArray) (a0_7 : ByteArray) (a1_0 : Int) (l1_1 : List (S102)) (a1_2 : Int) (a2 : Int) : Option (Bool × Int × Int × Int × Int × ByteArray × ByteArray × ByteArray × Bool) := (frame_find.f k a0_1).bind fun bt225 => ((frame_status.f k a1_0).bind fun t227 => (if a1_0 = 1 then (frame_Reply.j0 k a2 bt225.1 bt225.2 (decide ((l1_1.length : Int) > 0)) a0_0 a0_1 a0_2 a0_3 a0_4 a0_5 a0_6 a0_7 a1_0 l1_1 a1_2 true a0_1 t227 a0_3 0 (⟨#[]⟩ : ByteArray) (⟨#[]⟩ : ByteArray) (⟨#[]⟩ : ByteArray)) else (frame_Reply.j0 k a2 bt225.1 bt225.2 false a0_0 a0_1 a0_2 a0_3 a0_4 a0_5 a0_6 a0_7 a1_0 l1_1 a1_2 true a0_1 t227 a0_3 0 (⟨#[]⟩ : ByteArray) (⟨#[]⟩ : ByteArray) (⟨#[]⟩ : ByteArray))))
def frame_Reply.T2 : Bool × List (List Nat × List Nat) := (true, [([], []), ([0], [0]), ([], []), ([2], [2]), ([], []), ([4], [4]), ([5], [5]), ([1, 3, 6], [1, 3, 6]), ([], []), ([8, 7, 6, 0, 1, 2, 3, 4, 5, 6, 7, 8], [7, 8])])
def frame_Reply.B2 : List Nat := [0, 1, 0, 4, 0, 16, 48, 127, 0, 511]
theorem frame_Reply.tab2 : rtab .any (opsOf Try.f24 2) = frame_Reply.T2 := by kernel_rfl
theorem frame_Reply.bits2 : waitsOk frame_Reply.T2.2 frame_Reply.B2 = true := by kernel_rfl
def frame_Reply.T10 : Bool × List (List Nat × List Nat) := (true, [([], []), ([0], [0]), ([], []), ([2], [2]), ([3], [3]), ([4], [4]), ([], []), ([6], [6]), ([], []), ([8], [8]), ([], []), ([10, 5], [10]), ([0, 1, 10, 11], []), ([12, 1, 11, 0, 1, 10, 11], [1, 12]), ([0, 1, 2, 3, 4, 5, 10, 11, 12, 13], []), ([14, 5, 13, 0, 1, 2, 3, 4, 5, 10, 11, 12, 13], [5, 14]), ([0, 1, 2, 3, 4, 5, 6, 7, 10, 11, 12, 13, 14, 15], []), ([16, 7, 15, 0, 1, 2, 3, 4, 5, 6, 7, 10, 11, 12, 13, 14, 15], [7, 16]), ([0, 1, 2, 3, 4, 5, 6, 7, 8, 9, 10, 11, 12, 13, 14, 15, 16, 17], []), ([18, 9, 17, 0, 1, 2, 3, 4, 5, 6, 7, 8, 9, 10, 11, 12, 13, 14, 15, 16, 17], [9, 18])])
def frame_Reply.B10 : List Nat := [0, 1, 0, 4, 12, 28, 0, 64, 0, 256, 0, 1084, 3135, 7231, 15423, 31807, 64767, 130303, 262143, 524287]
theorem frame_Reply.tab10 : rtab .any (opsOf Try.f24 10) = frame_Reply.T10 := by kernel_rfl
theorem frame_Reply.bits10 : waitsOk frame_Reply.T10.2 frame_Reply.B10 = true := by kernel_rfl

end Go.Proofs.Ytdepkgikdmlgiaa.P
