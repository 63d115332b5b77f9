/- Lean functions for the Go functions that the laws of this seat use, and the proofs that the Go code computes them; conditions: the readings that each theorem names. Written by a program. -/
import Derived.Test.YtdepkgikdmlgiaaPx0
import Derived.Test.YtdepkgikdmlgiaaPx3
import Derived.Test.YtdepkgikdmlgiaaShort
namespace Go.Proofs.Ytdepkgikdmlgiaa.P
open Go.RowKit Go.Proofs.YtdepkgikdmlgiaaW.PrintWords Go.Proofs.YtdepkgikdmlgiaaW.PrintLast Go.Proofs.YtdepkgikdmlgiaaW.PrintMore
set_option linter.unusedVariables false
set_option linter.unusedSimpArgs false

/-- A state of type 95 at block g of W; what its slices lead to came in by w0. -/
def IsS95 (w0 W : World) (g : Nat) (f0 : List Int) (f1 : Int) : Prop := ∃ A0 c0, W.heap[g]? = some (.cells #[.slice A0 f0.length c0, .int .i64 f1] 95 (0, 0)) ∧ w0.heap.size ≤ g ∧ Kd.C (Kd.int .u8) w0 A0 f0.length f0
theorem IsS95.grown {w0 W : World} {g : Nat} {f0 : List Int} {f1 : Int} {W1 : World} {row : Option Nat} (h : IsS95 w0 W g f0 f1) (hw : W.grownBy W1 row) (hne : some g ≠ row) : IsS95 w0 W1 g f0 f1 := by
 obtain ⟨A0, c0, hb, hg, hr0⟩ := h; exact ⟨A0, c0, blk_grown hb hw hne, hg, hr0⟩
theorem IsS95.fresh {w0 W : World} {g : Nat} {f0 : List Int} {f1 : Int} (h : IsS95 w0 W g f0 f1) : ∀ k, W.heap.size ≤ k → k ≠ g := by
 obtain ⟨A0, c0, hb, hg, hr0⟩ := h; exact Kd.freshB hb
theorem IsS95.kept {w0 W : World} {g : Nat} {f0 : List Int} {f1 : Int} {W1 : World} {S : Nat → Prop} (h : IsS95 w0 W g f0 f1) (hk : Kept W W1 S) (hne : ¬ S g) : IsS95 w0 W1 g f0 f1 := by
 obtain ⟨A0, c0, hb, hg, hr0⟩ := h; exact ⟨A0, c0, blk_kept hb hk hne, hg, hr0⟩
theorem IsS95.below {w0 W : World} {g : Nat} {f0 : List Int} {f1 : Int} {W1 : World} (h : IsS95 w0 W g f0 f1) (hw : Below W.heap.size W W1) : IsS95 w0 W1 g f0 f1 := h.grown (grown_of_below hw none) (by simp)
theorem IsS95.alloc {w0 W : World} {g : Nat} {f0 : List Int} {f1 : Int} (h : IsS95 w0 W g f0 f1) (o : Obj) : IsS95 w0 (W.alloc o) g f0 f1 := h.below (eA (Below.refl _ _) o)
theorem IsS95.drewN {w0 W : World} {g : Nat} {f0 : List Int} {f1 : Int} (h : IsS95 w0 W g f0 f1) (m : Nat) : IsS95 w0 (W.drewN m) g f0 f1 := h
theorem IsS95.drew {w0 W : World} {g : Nat} {f0 : List Int} {f1 : Int} (h : IsS95 w0 W g f0 f1) : IsS95 w0 W.drew g f0 f1 := h
theorem IsS95.at_ {w0 W : World} {g : Nat} {f0 : List Int} {f1 : Int} {w' : World} {m : Nat} (hq : W.drewN m = w') (h : IsS95 w0 W g f0 f1) : IsS95 w0 w' g f0 f1 := by subst hq; exact IsS95.drewN h m
theorem IsS95.apart {w0 W : World} {g : Nat} {f0 : List Int} {f1 : Int} {α : Type} {d : Kd α} {e : Nat} {base : Nat} {ok : Nat → Prop} {v : Value} {xs : List α} (h : IsS95 w0 W g f0 f1) (ho : d.R e W base ok v xs) (ht : ∀ q, q ∈ e :: d.E → q ≠ 95) : d.R e W base (fun k => ok k ∧ k ≠ g) v xs := by
 obtain ⟨A0, c0, hb, hg, hr0⟩ := h; exact Kd.R_types ho hb ht
theorem IsS95.own_ne {w0 W : World} {g : Nat} {f0 : List Int} {f1 : Int} {α : Type} {d : Kd α} {e : Nat} {base : Nat} {ok : Nat → Prop} {v : Value} {xs : List α} (h : IsS95 w0 W g f0 f1) (ho : d.R e W base ok v xs) (ht : e ≠ 95) : some g ≠ v.ownBlock := by
 obtain ⟨A0, c0, hb, hg, hr0⟩ := h; exact Kd.R_ne ho hb ht
theorem IsS95.new (w0 W : World) (A0 : Option Addr) (c0 : Nat) (f0 : List Int) (f1 : Int) (hB : Below w0.heap.size w0 W) (hr0 : Kd.C (Kd.int .u8) w0 A0 f0.length f0) : IsS95 w0 (W.alloc (.cells #[.slice A0 f0.length c0, .int .i64 f1] 95)) W.heap.size f0 f1 := ⟨A0, c0, by simpa using heap_alloc_new W _, hB.size, hr0⟩

/-! ### frame_New: function 18 -/
-- NOT PRINTED: function 19 (frame_Reader_Feed)

-- NOT PRINTED: function 20 (tallboyref29_Reader_Feed)

-- NOT PRINTED: function 21 (frame_Reader_Next)

-- NOT PRINTED: function 22 (tallboyref29_Reader_Next)

-- NOT PRINTED: function 4 (tallboylaw29_FrameReads)

/-! ### tallboylaw18_Great: function 23 -/
def tallboylaw18_Great.l0 : Nat → Int → Int → Int → List (S97) → Int → Option (Bool)
 | 0, _, _, _, _, _ => none
 | k + 1, x3, x4, x212000, z0, x212002 => if x4 < (z0.length : Int) then (if x3 < 20000 then (if 0 ≤ x4 then (tallboylaw18_Great.l0 k (wrap64 ((wrap64 ((wrap64 (x3 + 1)) + (((rd_T97 z0 x4).f0).size : Int))) + (((rd_T97 z0 x4).f2).size : Int))) (wrap64 (x4 + 1)) x212000 z0 x212002) else (none)) else (some (decide (x3 ≥ 20000)))) else (some (decide (x3 ≥ 20000)))
def tallboylaw18_Great.f (k : Nat) (a0_0 : Int) (l0_1 : List (S97)) (a0_2 : Int) : Option (Bool) := tallboylaw18_Great.l0 k 0 0 a0_0 l0_1 a0_2
theorem tallboylaw18_Great.mono_l : ∀ k, (∀ y0 y1 y2 y3 y4, LeO (tallboylaw18_Great.l0 k y0 y1 y2 y3 y4) (tallboylaw18_Great.l0 (k + 1) y0 y1 y2 y3 y4))
 | 0 => fun _ _ _ _ _ r h => by simp [tallboylaw18_Great.l0] at h
 | k + 1 => by
  have ih0 := tallboylaw18_Great.mono_l k
  ·intro y0 y1 y2 y3 y4
   unfold tallboylaw18_Great.l0
   repeat' first | (with_reducible first | apply ih0 | exact LeO.refl _ | exact LeO.none _ | refine LeO.ite ?_ ?_ | refine LeO.bind ?_ (fun _ => ?_)) | apply ih0 | exact LeO.none _ | refine LeO.ite ?_ ?_ | refine LeO.bind ?_ (fun _ => ?_)
theorem tallboylaw18_Great.mono : ∀ a0 a1 a2 k, LeO (tallboylaw18_Great.f k a0 a1 a2) (tallboylaw18_Great.f (k + 1) a0 a1 a2) := by
 intro a0 a1 a2 k
 have ih0 := tallboylaw18_Great.mono_l k; unfold tallboylaw18_Great.f
 repeat' first | (with_reducible first | apply ih0 | exact LeO.refl _ | exact LeO.none _ | refine LeO.ite ?_ ?_ | refine LeO.bind ?_ (fun _ => ?_)) | apply ih0 | exact LeO.none _ | refine LeO.ite ?_ ?_ | refine LeO.bind ?_ (fun _ => ?_)
set_option maxHeartbeats 8000000 in
set_option maxRecDepth 100000 in
theorem tallboylaw18_Great.calls (k : Nat) (a0_0 : Int) (A0_1 : Option Addr) (c0_1 : Nat) (l0_1 : List (S97)) (a0_2 : Int) (r : Bool) (w : World) (hr0_1 : Kd.C k97 w A0_1 l0_1.length l0_1) (hc0_1 : l0_1.length ≤ c0_1) (h : tallboylaw18_Great.f k a0_0 l0_1 a0_2 = some r) :
  Calls Try.prog 23 #[.agg #[.int .i64 a0_0, .slice A0_1 l0_1.length c0_1, .int .u64 a0_2]] w fun e w' => e = .returned (.bool r) ∧ Below w.heap.size w w' := by
 have hu55 := Try.underlying55; have HR0_1 := Aside0.mk hr0_1; have HC0_1 := Aside0.mk hc0_1; clear hr0_1 hc0_1; have HB := Aside0.mk (Below.refl w.heap.size w); have H : (tallboylaw18_Great.l0 k 0 0 a0_0 l0_1 a0_2) = some r := h; clear h; have H' := Aside0.mk H; clear H; go_enter Try.func23, Try.ntmps23
 go_wp2_with (first | ((with_reducible refine gate_dst (N := 1) rfl ?_); refine bE 1 #[.int .i64 a0_0, .slice A0_1 l0_1.length c0_1, .int .u64 a0_2] 55 rfl rfl ?_; intro gb211 hg w2 hbox hb; have BK211 := rM hbox; have GW211 := rG HB hg; replace HB := rS HB hb; have GE211 := GW211; clear hb hbox hg))
 repeat (go_quiet (first | ((with_reducible refine gate_dst (N := 1) rfl ?_); refine bE 1 #[.int .i64 a0_0, .slice A0_1 l0_1.length c0_1, .int .u64 a0_2] 55 rfl rfl ?_; intro gb211 hg w2 hbox hb; have BK211 := rM hbox; have GW211 := rG HB hg; replace HB := rS HB hb; have GE211 := GW211; clear hb hbox hg)); try go_wp2_with (first | ((with_reducible refine gate_dst (N := 1) rfl ?_); refine bE 1 #[.int .i64 a0_0, .slice A0_1 l0_1.length c0_1, .int .u64 a0_2] 55 rfl rfl ?_; intro gb211 hg w2 hbox hb; have BK211 := rM hbox; have GW211 := rG HB hg; replace HB := rS HB hb; have GE211 := GW211; clear hb hbox hg)))
 go_loopg [3, 4] k (fun kq v3 v4 w' => ∃ (x3_1 : Int) (x4_1 : Int), v3 = .int .i64 x3_1 ∧ v4 = .int .i64 x4_1 ∧ Aside0 (tallboylaw18_Great.l0 kq x3_1 x4_1 a0_0 l0_1 a0_2 = some r) ∧ Aside0 (kq ≤ k) ∧ Aside0 (w'.heap[gb211]? = some (.cells #[.int .i64 a0_0, (.slice A0_1 l0_1.length c0_1), .int .u64 a0_2] 55 (0, 0))) ∧ Aside0 (Below w.heap.size w w'))
 case atStart => exact ⟨(0), (0), (by first | rfl | (simp; done) | (simp [*]; done)), (by first | rfl | (simp; done) | (simp [*]; done)), H', ⟨Nat.le_refl _⟩, ⟨bK BK211.out⟩, ⟨bH HB.out⟩⟩
 case round =>
  clear H'; obtain ⟨x3_1, x4_1, rfl, rfl, HA, HK1, BK211, HB⟩ := hrel; cases gk with
  | zero => exact absurd HA.out (by simp [tallboylaw18_Great.l0])
  | succ k1 =>
   have H := HA.out; clear HA; simp only [tallboylaw18_Great.l0] at H
   by_cases c3 : x4_1 < (l0_1.length : Int)
   ·rw [if_pos c3] at H; have c3b0 : decide (x4_1 < (l0_1.length : Int)) = true := decide_eq_true c3; clear c3
    by_cases c4 : x3_1 < 20000
    ·rw [if_pos c4] at H; have c4b0 : decide (x3_1 < 20000) = true := decide_eq_true c4; clear c4
     by_cases c5 : 0 ≤ x4_1
     ·rw [if_pos c5] at H; have c5b0 : decide (0 ≤ x4_1) = true := decide_eq_true c5; clear c5; have H' := Aside0.mk H; clear H; obtain ⟨hcz6, hfz6⟩ := d3 BK211; have p212 : 0 ≤ (x4_1 : Int) := of_decide_eq_true (by first | (with_reducible assumption) | assumption); have q212 : x4_1 < (l0_1.length : Int) := of_decide_eq_true (by first | (with_reducible assumption) | assumption)
      obtain ⟨ad212, e212, hx212_0, hx212_1, hx212_2, hx212_3⟩ := at_T97 HR0_1.out x4_1 p212 q212; cases e212; replace hx212_0 := (HB.out.cell (World.block_lt_of_cell? w _ hx212_0)).trans hx212_0; replace hx212_1 := (HB.out.cell (World.block_lt_of_cell? w _ hx212_1)).trans hx212_1; replace hx212_2 := (HB.out.cell (World.block_lt_of_cell? w _ hx212_2)).trans hx212_2; replace hx212_3 := (HB.out.cell (World.block_lt_of_cell? w _ hx212_3)).trans hx212_3; replace p212 := eq_true p212; replace q212 := eq_true q212; have p213 : 0 ≤ (x4_1 : Int) := of_decide_eq_true (by first | (with_reducible assumption) | assumption); have q213 : x4_1 < (l0_1.length : Int) := of_decide_eq_true (by first | (with_reducible assumption) | assumption)
      obtain ⟨ad213, e213, hx213_0, hx213_1, hx213_2, hx213_3⟩ := at_T97 HR0_1.out x4_1 p213 q213; obtain rfl : ad212 = ad213 := (by injection e213); replace hx213_0 := (HB.out.cell (World.block_lt_of_cell? w _ hx213_0)).trans hx213_0; replace hx213_1 := (HB.out.cell (World.block_lt_of_cell? w _ hx213_1)).trans hx213_1; replace hx213_2 := (HB.out.cell (World.block_lt_of_cell? w _ hx213_2)).trans hx213_2; replace hx213_3 := (HB.out.cell (World.block_lt_of_cell? w _ hx213_3)).trans hx213_3; replace p213 := eq_true p213; replace q213 := eq_true q213; go_wp2
      repeat (go_quiet (fail); try go_wp2)
      go_roundg k1
      case measure => have := HK1.out; omega
      case rel => exact ⟨(wrap64 ((wrap64 ((wrap64 (x3_1 + 1)) + (((rd_T97 l0_1 x4_1).f0).size : Int))) + (((rd_T97 l0_1 x4_1).f2).size : Int))), (wrap64 (x4_1 + 1)), (by first | rfl | (simp; done) | (simp [*]; done)), (by first | rfl | (simp; done) | (simp [*]; done)), H', ⟨by have := HK1.out; omega⟩, ⟨bK BK211.out⟩, ⟨bH HB.out⟩⟩
     ·rw [if_neg c5] at H; exact absurd H (by simp)
    ·rw [if_neg c4] at H; have c4b0 : decide (x3_1 < 20000) = false := decide_eq_false c4; clear c4; obtain rfl := Option.some.inj H; obtain ⟨hcz7, hfz7⟩ := d3 BK211; go_wp2
     repeat (go_quiet (fail); try go_wp2)
     go_ret
     exact ⟨xR, bH HB.out⟩
   ·rw [if_neg c3] at H; have c3b0 : decide (x4_1 < (l0_1.length : Int)) = false := decide_eq_false c3; clear c3; obtain rfl := Option.some.inj H; obtain ⟨hcz8, hfz8⟩ := d3 BK211; go_wp2
    repeat (go_quiet (fail); try go_wp2)
    go_ret
    exact ⟨xR, bH HB.out⟩

/-! ### frame_table: function 57 -/
def frame_table.f  : Option ((List (S112))) := some (([(⟨0, 9, 1⟩ : S112), (⟨12, 13, 2⟩ : S112), (⟨1, 17, 5⟩ : S112), (⟨2, 18, 6⟩ : S112), (⟨3, 19, 7⟩ : S112), (⟨4, 20, 11⟩ : S112), (⟨5, 21, 12⟩ : S112), (⟨6, 22, 13⟩ : S112), (⟨8, 24, 15⟩ : S112), (⟨14, 25, 8⟩ : S112), (⟨15, 26, 9⟩ : S112), (⟨28, 0, 14⟩ : S112), (⟨29, 30, 3⟩ : S112)] : List (S112)))
set_option maxHeartbeats 8000000 in
set_option maxRecDepth 100000 in
theorem frame_table.calls  (r : List (S112)) (w : World) (h : frame_table.f  = some r) :
  Calls Try.prog 57 #[] w fun e w' => ∃ v0_ : Value, e = .returned (v0_) ∧ Kd.R k112 112 w' w.heap.size (fun _ => True) v0_ r ∧ Below w.heap.size w w' := by
 have hu112 := Try.underlying112; have HB := Aside0.mk (Below.refl w.heap.size w); have H : (some (([(⟨0, 9, 1⟩ : S112), (⟨12, 13, 2⟩ : S112), (⟨1, 17, 5⟩ : S112), (⟨2, 18, 6⟩ : S112), (⟨3, 19, 7⟩ : S112), (⟨4, 20, 11⟩ : S112), (⟨5, 21, 12⟩ : S112), (⟨6, 22, 13⟩ : S112), (⟨8, 24, 15⟩ : S112), (⟨14, 25, 8⟩ : S112), (⟨15, 26, 9⟩ : S112), (⟨28, 0, 14⟩ : S112), (⟨29, 30, 3⟩ : S112)] : List (S112)))) = some r := h; clear h; obtain ⟨y214, hy214⟩ : ∃ y_ : List (S112), y_ = (([(⟨0, 9, 1⟩ : S112), (⟨12, 13, 2⟩ : S112), (⟨1, 17, 5⟩ : S112), (⟨2, 18, 6⟩ : S112), (⟨3, 19, 7⟩ : S112), (⟨4, 20, 11⟩ : S112), (⟨5, 21, 12⟩ : S112), (⟨6, 22, 13⟩ : S112), (⟨8, 24, 15⟩ : S112), (⟨14, 25, 8⟩ : S112), (⟨15, 26, 9⟩ : S112), (⟨28, 0, 14⟩ : S112), (⟨29, 30, 3⟩ : S112)] : List (S112))) := ⟨_, rfl⟩; replace H : (some y214) = some r := by first | (rw [hy214]; with_reducible exact H) | (have H2_ := (Option.bind_some _ _).symm.trans H; rw [hy214]; with_reducible exact H2_) | (have H2_ := (Option.bind_some _ _).symm.trans H; with_reducible exact H2_) | with_reducible exact H | (rw [hy214]; exact H) | exact H
 have Ny214 := Aside0.mk hy214; clear hy214; obtain rfl := Option.some.inj H; go_enter Try.func57, Try.ntmps57
 go_wp2_with (first | ((with_reducible refine gate_dst (N := 14) rfl ?_); refine Kd.R_lit k112 _ 112 ?hg (N := 14) ?hd (xs := ([(⟨0, 9, 1⟩ : S112), (⟨12, 13, 2⟩ : S112), (⟨1, 17, 5⟩ : S112), (⟨2, 18, 6⟩ : S112), (⟨3, 19, 7⟩ : S112), (⟨4, 20, 11⟩ : S112), (⟨5, 21, 12⟩ : S112), (⟨6, 22, 13⟩ : S112), (⟨8, 24, 15⟩ : S112), (⟨14, 25, 8⟩ : S112), (⟨15, 26, 9⟩ : S112), (⟨28, 0, 14⟩ : S112), (⟨29, 30, 3⟩ : S112)] : List (S112))) (inner := [.int .u8 0, .int .u8 9, .int .i64 1, .int .u8 12, .int .u8 13, .int .i64 2, .int .u8 1, .int .u8 17, .int .i64 5, .int .u8 2, .int .u8 18, .int .i64 6, .int .u8 3, .int .u8 19, .int .i64 7, .int .u8 4, .int .u8 20, .int .i64 11, .int .u8 5, .int .u8 21, .int .i64 12, .int .u8 6, .int .u8 22, .int .i64 13, .int .u8 8, .int .u8 24, .int .i64 15, .int .u8 14, .int .u8 25, .int .i64 8, .int .u8 15, .int .u8 26, .int .i64 9, .int .u8 28, .int .u8 0, .int .i64 14, .int .u8 29, .int .u8 30, .int .i64 3]) (ok := fun _ => True) (okp := fun _ => True) ?hr ?hp (fun _ hk => hk) trivial (Below.refl _ _) (Nat.le_refl _) (by simp) ?_; (case hd => rfl); (case hg => rfl); (case hr => first | (go_simp; done) | (go_simp; rfl)); (case hp => exact (Reps.c3 (show Kd.M k112 _ _ _ (⟨0, 9, 1⟩ : S112) [.int .u8 0, .int .u8 9, .int .i64 1] from (k112_mkM _ _ _ (⟨0, 9, 1⟩ : S112) )) (Reps.c3 (show Kd.M k112 _ _ _ (⟨12, 13, 2⟩ : S112) [.int .u8 12, .int .u8 13, .int .i64 2] from (k112_mkM _ _ _ (⟨12, 13, 2⟩ : S112) )) (Reps.c3 (show Kd.M k112 _ _ _ (⟨1, 17, 5⟩ : S112) [.int .u8 1, .int .u8 17, .int .i64 5] from (k112_mkM _ _ _ (⟨1, 17, 5⟩ : S112) )) (Reps.c3 (show Kd.M k112 _ _ _ (⟨2, 18, 6⟩ : S112) [.int .u8 2, .int .u8 18, .int .i64 6] from (k112_mkM _ _ _ (⟨2, 18, 6⟩ : S112) )) (Reps.c3 (show Kd.M k112 _ _ _ (⟨3, 19, 7⟩ : S112) [.int .u8 3, .int .u8 19, .int .i64 7] from (k112_mkM _ _ _ (⟨3, 19, 7⟩ : S112) )) (Reps.c3 (show Kd.M k112 _ _ _ (⟨4, 20, 11⟩ : S112) [.int .u8 4, .int .u8 20, .int .i64 11] from (k112_mkM _ _ _ (⟨4, 20, 11⟩ : S112) )) (Reps.c3 (show Kd.M k112 _ _ _ (⟨5, 21, 12⟩ : S112) [.int .u8 5, .int .u8 21, .int .i64 12] from (k112_mkM _ _ _ (⟨5, 21, 12⟩ : S112) )) (Reps.c3 (show Kd.M k112 _ _ _ (⟨6, 22, 13⟩ : S112) [.int .u8 6, .int .u8 22, .int .i64 13] from (k112_mkM _ _ _ (⟨6, 22, 13⟩ : S112) )) (Reps.c3 (show Kd.M k112 _ _ _ (⟨8, 24, 15⟩ : S112) [.int .u8 8, .int .u8 24, .int .i64 15] from (k112_mkM _ _ _ (⟨8, 24, 15⟩ : S112) )) (Reps.c3 (show Kd.M k112 _ _ _ (⟨14, 25, 8⟩ : S112) [.int .u8 14, .int .u8 25, .int .i64 8] from (k112_mkM _ _ _ (⟨14, 25, 8⟩ : S112) )) (Reps.c3 (show Kd.M k112 _ _ _ (⟨15, 26, 9⟩ : S112) [.int .u8 15, .int .u8 26, .int .i64 9] from (k112_mkM _ _ _ (⟨15, 26, 9⟩ : S112) )) (Reps.c3 (show Kd.M k112 _ _ _ (⟨28, 0, 14⟩ : S112) [.int .u8 28, .int .u8 0, .int .i64 14] from (k112_mkM _ _ _ (⟨28, 0, 14⟩ : S112) )) (Reps.c3 (show Kd.M k112 _ _ _ (⟨29, 30, 3⟩ : S112) [.int .u8 29, .int .u8 30, .int .i64 3] from (k112_mkM _ _ _ (⟨29, 30, 3⟩ : S112) )) (Reps.none _ _))))))))))))))); intro v215 w1 ho2 hb hg_ hnew_; clear hg_ hnew_; (first | rw [← Ny214.out] at ho2 | (simp only [Int.reduceToNat] at ho2; rw [← Ny214.out] at ho2)); have HO216 := Aside0.mk (Kd.R_lower ho2 (below_size (bH HB.out))); replace HB := rS HB hb; clear hb ho2))
 go_ret
 exact ⟨_, xR, by (with_reducible repeat (first | apply Kd.R_alloc | apply Kd.R_drewN | apply Kd.R_drew)); exact HO216.out, bH HB.out⟩

/-! ### frame_find: function 43 -/
def frame_find.l0 : Nat → Int → List (S112) → Int → Int → Option (Int × Bool)
 | 0, _, _, _, _ => none
 | k + 1, x0, x6, x7, x8 => if x8 < x7 then (if 0 ≤ x8 then (if x8 < (x6.length : Int) then (if ((rd_T112 x6 x8).f0) = x0 then (some ((rd_T112 x6 x8).f2, false)) else (if ((rd_T112 x6 x8).f1) = x0 then (if ((rd_T112 x6 x8).f1) = 0 then (frame_find.l0 k x0 x6 x7 (wrap64 (x8 + 1))) else (some ((rd_T112 x6 x8).f2, true))) else (frame_find.l0 k x0 x6 x7 (wrap64 (x8 + 1))))) else (none)) else (none)) else (some (0, false))
def frame_find.f (k : Nat) (a0 : Int) : Option (Int × Bool) := (frame_table.f).bind fun t217 => (frame_find.l0 k a0 t217 (t217.length : Int) 0)
theorem frame_find.mono_l : ∀ k, (∀ y0 y1 y2 y3, LeO (frame_find.l0 k y0 y1 y2 y3) (frame_find.l0 (k + 1) y0 y1 y2 y3))
 | 0 => fun _ _ _ _ r h => by simp [frame_find.l0] at h
 | k + 1 => by
  have ih0 := frame_find.mono_l k
  ·intro y0 y1 y2 y3
   unfold frame_find.l0
   repeat' first | (with_reducible first | apply ih0 | exact LeO.refl _ | exact LeO.none _ | refine LeO.ite ?_ ?_ | refine LeO.bind ?_ (fun _ => ?_)) | apply ih0 | exact LeO.none _ | refine LeO.ite ?_ ?_ | refine LeO.bind ?_ (fun _ => ?_)
theorem frame_find.mono : ∀ a0 k, LeO (frame_find.f k a0) (frame_find.f (k + 1) a0) := by
 intro a0 k
 have ih0 := frame_find.mono_l k; unfold frame_find.f
 repeat' first | (with_reducible first | apply ih0 | exact LeO.refl _ | exact LeO.none _ | refine LeO.ite ?_ ?_ | refine LeO.bind ?_ (fun _ => ?_)) | apply ih0 | exact LeO.none _ | refine LeO.ite ?_ ?_ | refine LeO.bind ?_ (fun _ => ?_)
set_option maxHeartbeats 8000000 in
set_option maxRecDepth 100000 in
theorem frame_find.calls (k : Nat) (a0 : Int) (r1 : Int) (r2 : Bool) (w : World) (h : frame_find.f k a0 = some (r1, r2)) :
  Calls Try.prog 43 #[.int .u8 a0] w fun e w' => e = .returned (.tuple #[.int .i64 r1, .bool r2]) ∧ Below w.heap.size w w' := by
 have hu112 := Try.underlying112; have HB := Aside0.mk (Below.refl w.heap.size w); have H : ((frame_table.f).bind fun t217 => (frame_find.l0 k a0 t217 (t217.length : Int) 0)) = some (r1, r2) := h; clear h; replace H := Option.bind_eq_some_iff.mp H; obtain ⟨t217, A20, H⟩ := H; (try dsimp only at H); have A2 := Aside0.mk A20; clear A20; have H' := Aside0.mk H; clear H; go_enter Try.func43, Try.ntmps43
 go_wp2_with (first | ((with_reducible refine gate_callee (f := 57) rfl ?_); refine gL (some 6) rfl rfl Try.func57 #[] rfl ?_; (with_reducible refine (frame_table.calls  t217 _ A2.out).mono ?_); rintro e w3 ⟨v218, rfl, ho0, hb⟩; refine ⟨_, rfl, ?_⟩; have HO219 := Aside0.mk (Kd.R_lower ho0 (below_size (bH HB.out))); replace HB := rS HB hb; (try clear hb); (try clear hk); (try clear ho0); obtain ⟨Ao4, co4, eo4⟩ := Kd.R_slice HO219.out; subst eo4))
 go_loopg [8] k (fun kq v8 w' => ∃ (x8_1 : Int), v8 = .int .i64 x8_1 ∧ Aside0 (frame_find.l0 kq a0 t217 (t217.length : Int) x8_1 = some (r1, r2)) ∧ Aside0 (kq ≤ k) ∧ Aside0 (Kd.R k112 112 w' w.heap.size (fun _ => True) (.slice Ao4 t217.length co4) t217) ∧ Aside0 (Below w.heap.size w w'))
 case atStart => exact ⟨(0), (by first | rfl | (simp; done) | (simp [*]; done)), H', ⟨Nat.le_refl _⟩, ⟨by (with_reducible repeat (first | apply Kd.R_alloc | apply Kd.R_drewN | apply Kd.R_drew)); exact HO219.out⟩, ⟨bH HB.out⟩⟩
 case round =>
  clear H'; obtain ⟨x8_1, rfl, HA, HK1, HO_6, HB⟩ := hrel; cases gk with
  | zero => exact absurd HA.out (by simp [frame_find.l0])
  | succ k1 =>
   have H := HA.out; clear HA; simp only [frame_find.l0] at H
   by_cases c5 : x8_1 < (t217.length : Int)
   ·rw [if_pos c5] at H; have c5b0 : decide (x8_1 < (t217.length : Int)) = true := decide_eq_true c5; clear c5
    by_cases c6 : 0 ≤ x8_1
    ·rw [if_pos c6] at H; have c6b0 : decide (0 ≤ x8_1) = true := decide_eq_true c6; clear c6
     by_cases c7 : x8_1 < (t217.length : Int)
     ·rw [if_pos c7] at H; have c7b0 : decide (x8_1 < (t217.length : Int)) = true := decide_eq_true c7; clear c7
      by_cases c8 : ((rd_T112 t217 x8_1).f0) = a0
      ·rw [if_pos c8] at H; have c8b0 : (((rd_T112 t217 x8_1).f0) == a0) = true := beq_iff_eq.mpr c8; have c8b1 : (((rd_T112 t217 x8_1).f0) != a0) = false := bne_eq_false_iff_eq.mpr c8; clear c8; simp only [Option.some.injEq, Prod.mk.injEq] at H; obtain ⟨rfl, rfl⟩ := H; have p220 : 0 ≤ (x8_1 : Int) := of_decide_eq_true (by first | (with_reducible assumption) | assumption); have q220 : x8_1 < (t217.length : Int) := of_decide_eq_true (by first | (with_reducible assumption) | assumption)
       obtain ⟨ad220, e220, hx220_0, hx220_1, hx220_2⟩ := at_T112 (Kd.R_reads' HO_6.out).2.2 x8_1 p220 q220; cases e220; replace p220 := eq_true p220; replace q220 := eq_true q220
       go_wp2_with (first | ((with_reducible refine gate_dst (N := 5) rfl ?_); refine bE 5 #[.int .u8 0, .int .u8 0, .int .i64 0] 112 rfl rfl ?_; intro gb221 hg w9 hbox hb; replace HO_6 := Aside0.mk (Kd.R_below (Kd.R_elderB (by (with_reducible repeat (first | apply Kd.R_alloc | apply Kd.R_drewN | apply Kd.R_drew)); exact HO_6.out) gb221 (Nat.le_of_eq hg.symm)) hb); have BK221 := rM hbox; have GW221 := rG HB hg; replace HB := rS HB hb; have GE221 := GW221; clear hb hbox hg; obtain ⟨hcz10, hfz10⟩ := d3 BK221))
       go_ret2
       exact ⟨xR, bH HB.out⟩
      ·rw [if_neg c8] at H; have c8b0 : (((rd_T112 t217 x8_1).f0) == a0) = false := beq_eq_false_iff_ne.mpr c8; have c8b1 : (((rd_T112 t217 x8_1).f0) != a0) = true := bne_iff_ne.mpr c8
       by_cases c11 : ((rd_T112 t217 x8_1).f1) = a0
       ·rw [if_pos c11] at H; have c11b0 : (((rd_T112 t217 x8_1).f1) == a0) = true := beq_iff_eq.mpr c11; have c11b1 : (((rd_T112 t217 x8_1).f1) != a0) = false := bne_eq_false_iff_eq.mpr c11; clear c11
        by_cases c12 : ((rd_T112 t217 x8_1).f1) = 0
        ·rw [if_pos c12] at H; have c12b0 : (((rd_T112 t217 x8_1).f1) == 0) = true := beq_iff_eq.mpr c12; have c12b1 : (((rd_T112 t217 x8_1).f1) != 0) = false := bne_eq_false_iff_eq.mpr c12; clear c12; have H' := Aside0.mk H; clear H; have p220 : 0 ≤ (x8_1 : Int) := of_decide_eq_true (by first | (with_reducible assumption) | assumption); have q220 : x8_1 < (t217.length : Int) := of_decide_eq_true (by first | (with_reducible assumption) | assumption)
         obtain ⟨ad220, e220, hx220_0, hx220_1, hx220_2⟩ := at_T112 (Kd.R_reads' HO_6.out).2.2 x8_1 p220 q220; cases e220; replace p220 := eq_true p220; replace q220 := eq_true q220
         go_wp2_with (first | ((with_reducible refine gate_dst (N := 5) rfl ?_); refine bE 5 #[.int .u8 0, .int .u8 0, .int .i64 0] 112 rfl rfl ?_; intro gb221 hg w13 hbox hb; replace HO_6 := Aside0.mk (Kd.R_below (Kd.R_elderB (by (with_reducible repeat (first | apply Kd.R_alloc | apply Kd.R_drewN | apply Kd.R_drew)); exact HO_6.out) gb221 (Nat.le_of_eq hg.symm)) hb); have BK221 := rM hbox; have GW221 := rG HB hg; replace HB := rS HB hb; have GE221 := GW221; clear hb hbox hg; obtain ⟨hcz14, hfz14⟩ := d3 BK221))
         go_roundg k1
         case measure => have := HK1.out; omega
         case rel => exact ⟨(wrap64 (x8_1 + 1)), (by first | rfl | (simp; done) | (simp [*]; done)), H', ⟨by have := HK1.out; omega⟩, ⟨by (with_reducible repeat (first | apply Kd.R_alloc | apply Kd.R_drewN | apply Kd.R_drew)); exact Kd.R_mono (Kd.R_far (p := ⟨gb221, 2, none⟩) (Kd.R_far (p := ⟨gb221, 1, none⟩) (Kd.R_far (p := ⟨gb221, 0, none⟩) (Kd.R_mono HO_6.out (fun k_ hk => (⟨hk, hk.2⟩ : _ ∧ k_ ≠ gb221))) (fun _ hk => hk.2) (.int .u8 ((rd_T112 t217 x8_1).f0))) (fun _ hk => hk.2) (.int .u8 ((rd_T112 t217 x8_1).f1))) (fun _ hk => hk.2) (.int .i64 ((rd_T112 t217 x8_1).f2))) (fun _ hk => trivial)⟩, ⟨bH HB.out⟩⟩
        ·rw [if_neg c12] at H; have c12b0 : (((rd_T112 t217 x8_1).f1) == 0) = false := beq_eq_false_iff_ne.mpr c12; have c12b1 : (((rd_T112 t217 x8_1).f1) != 0) = true := bne_iff_ne.mpr c12; simp only [Option.some.injEq, Prod.mk.injEq] at H; obtain ⟨rfl, rfl⟩ := H; have p220 : 0 ≤ (x8_1 : Int) := of_decide_eq_true (by first | (with_reducible assumption) | assumption); have q220 : x8_1 < (t217.length : Int) := of_decide_eq_true (by first | (with_reducible assumption) | assumption)
         obtain ⟨ad220, e220, hx220_0, hx220_1, hx220_2⟩ := at_T112 (Kd.R_reads' HO_6.out).2.2 x8_1 p220 q220; cases e220; replace p220 := eq_true p220; replace q220 := eq_true q220
         go_wp2_with (first | ((with_reducible refine gate_dst (N := 5) rfl ?_); refine bE 5 #[.int .u8 0, .int .u8 0, .int .i64 0] 112 rfl rfl ?_; intro gb221 hg w15 hbox hb; replace HO_6 := Aside0.mk (Kd.R_below (Kd.R_elderB (by (with_reducible repeat (first | apply Kd.R_alloc | apply Kd.R_drewN | apply Kd.R_drew)); exact HO_6.out) gb221 (Nat.le_of_eq hg.symm)) hb); have BK221 := rM hbox; have GW221 := rG HB hg; replace HB := rS HB hb; have GE221 := GW221; clear hb hbox hg; obtain ⟨hcz16, hfz16⟩ := d3 BK221))
         go_ret2
         exact ⟨xR, bH HB.out⟩
       ·rw [if_neg c11] at H; have c11b0 : (((rd_T112 t217 x8_1).f1) == a0) = false := beq_eq_false_iff_ne.mpr c11; have c11b1 : (((rd_T112 t217 x8_1).f1) != a0) = true := bne_iff_ne.mpr c11; have H' := Aside0.mk H; clear H; have p220 : 0 ≤ (x8_1 : Int) := of_decide_eq_true (by first | (with_reducible assumption) | assumption); have q220 : x8_1 < (t217.length : Int) := of_decide_eq_true (by first | (with_reducible assumption) | assumption)
        obtain ⟨ad220, e220, hx220_0, hx220_1, hx220_2⟩ := at_T112 (Kd.R_reads' HO_6.out).2.2 x8_1 p220 q220; cases e220; replace p220 := eq_true p220; replace q220 := eq_true q220
        go_wp2_with (first | ((with_reducible refine gate_dst (N := 5) rfl ?_); refine bE 5 #[.int .u8 0, .int .u8 0, .int .i64 0] 112 rfl rfl ?_; intro gb221 hg w17 hbox hb; replace HO_6 := Aside0.mk (Kd.R_below (Kd.R_elderB (by (with_reducible repeat (first | apply Kd.R_alloc | apply Kd.R_drewN | apply Kd.R_drew)); exact HO_6.out) gb221 (Nat.le_of_eq hg.symm)) hb); have BK221 := rM hbox; have GW221 := rG HB hg; replace HB := rS HB hb; have GE221 := GW221; clear hb hbox hg; obtain ⟨hcz18, hfz18⟩ := d3 BK221))
        go_roundg k1
        case measure => have := HK1.out; omega
        case rel => exact ⟨(wrap64 (x8_1 + 1)), (by first | rfl | (simp; done) | (simp [*]; done)), H', ⟨by have := HK1.out; omega⟩, ⟨by (with_reducible repeat (first | apply Kd.R_alloc | apply Kd.R_drewN | apply Kd.R_drew)); exact Kd.R_mono (Kd.R_far (p := ⟨gb221, 2, none⟩) (Kd.R_far (p := ⟨gb221, 1, none⟩) (Kd.R_far (p := ⟨gb221, 0, none⟩) (Kd.R_mono HO_6.out (fun k_ hk => (⟨hk, hk.2⟩ : _ ∧ k_ ≠ gb221))) (fun _ hk => hk.2) (.int .u8 ((rd_T112 t217 x8_1).f0))) (fun _ hk => hk.2) (.int .u8 ((rd_T112 t217 x8_1).f1))) (fun _ hk => hk.2) (.int .i64 ((rd_T112 t217 x8_1).f2))) (fun _ hk => trivial)⟩, ⟨bH HB.out⟩⟩
     ·rw [if_neg c7] at H; exact absurd H (by simp)
    ·rw [if_neg c6] at H; exact absurd H (by simp)
   ·rw [if_neg c5] at H; have c5b0 : decide (x8_1 < (t217.length : Int)) = false := decide_eq_false c5; clear c5; simp only [Option.some.injEq, Prod.mk.injEq] at H; obtain ⟨rfl, rfl⟩ := H; go_wp2
    go_ret2
    exact ⟨xR, bH HB.out⟩

/-! ### frame_status: function 44 -/
mutual
def frame_status.j0 : Nat → Int → Bool → Option (Int)
 | 0, _, _ => none
 | k + 1, x3, x4 => if x4 = true then (some 0) else (if x3 = 1 then (frame_status.j1 k x3 (x3 == 1)) else (frame_status.j1 k x3 (x3 == 5)))
def frame_status.j1 : Nat → Int → Bool → Option (Int)
 | 0, _, _ => none
 | k + 1, x3, x10 => if x10 = true then (some 1) else (if x3 = 3 then (some 5) else (if x3 = 4 then (some 2) else (if x3 = 8 then (some 6) else (if x3 = 11 then (some 130) else (if x3 = 12 then (some 3) else (some 4))))))
end
def frame_status.f (k : Nat) (a0 : Int) : Option (Int) := if a0 = 2 then (frame_status.j0 k a0 (a0 == 2)) else (if a0 = 6 then (frame_status.j0 k a0 (a0 == 6)) else (if a0 = 7 then (frame_status.j0 k a0 (a0 == 7)) else (if a0 = 9 then (frame_status.j0 k a0 (a0 == 9)) else (frame_status.j0 k a0 (a0 == 10)))))
theorem frame_status.mono_l : ∀ k, (∀ y0 y1, LeO (frame_status.j0 k y0 y1) (frame_status.j0 (k + 1) y0 y1)) ∧ (∀ y0 y1, LeO (frame_status.j1 k y0 y1) (frame_status.j1 (k + 1) y0 y1))
 | 0 => ⟨fun _ _ r h => by simp [frame_status.j0] at h, fun _ _ r h => by simp [frame_status.j1] at h⟩
 | k + 1 => by
  obtain ⟨ih0, ih1⟩ := frame_status.mono_l k; refine ⟨?_, ?_⟩
  all_goals intros
  all_goals (first | unfold frame_status.j0 | unfold frame_status.j1)
  all_goals repeat' first | (with_reducible first | apply ih0 | apply ih1 | exact LeO.refl _ | exact LeO.none _ | refine LeO.ite ?_ ?_ | refine LeO.bind ?_ (fun _ => ?_)) | apply ih0 | apply ih1 | exact LeO.none _ | refine LeO.ite ?_ ?_ | refine LeO.bind ?_ (fun _ => ?_)
theorem frame_status.mono : ∀ a0 k, LeO (frame_status.f k a0) (frame_status.f (k + 1) a0) := by
 intro a0 k
 obtain ⟨ih0, ih1⟩ := frame_status.mono_l k; unfold frame_status.f
 repeat' first | (with_reducible first | apply ih0 | apply ih1 | exact LeO.refl _ | exact LeO.none _ | refine LeO.ite ?_ ?_ | refine LeO.bind ?_ (fun _ => ?_)) | apply ih0 | apply ih1 | exact LeO.none _ | refine LeO.ite ?_ ?_ | refine LeO.bind ?_ (fun _ => ?_)
set_option maxHeartbeats 8000000 in
set_option maxRecDepth 100000 in
theorem frame_status.calls (k : Nat) (a0 : Int) (r : Int) (w : World) (h : frame_status.f k a0 = some r) :
  Calls Try.prog 44 #[.int .i64 a0] w fun e w' => e = .returned (.int .u16 r) ∧ Drawn0 w w' := by
 have H : (if a0 = 2 then (frame_status.j0 k a0 (a0 == 2)) else (if a0 = 6 then (frame_status.j0 k a0 (a0 == 6)) else (if a0 = 7 then (frame_status.j0 k a0 (a0 == 7)) else (if a0 = 9 then (frame_status.j0 k a0 (a0 == 9)) else (frame_status.j0 k a0 (a0 == 10)))))) = some r := h; clear h; have HC2 := Aside0.mk H; clear H; go_enter Try.func44, Try.ntmps44
 go_upto_if 4 with (fail)
 go_cut [4] (fun v4 wc => ∃ (kq : Nat) (x4_1 : Bool), v4 = .bool x4_1 ∧ Aside0 (frame_status.j0 kq a0 x4_1 = some r) ∧ Aside0 (kq ≤ k) ∧ Drawn0 w wc)
 case first =>
  have H := HC2.out; clear HC2
  by_cases c3 : a0 = 2
  ·rw [if_pos c3] at H; have c3b0 : (a0 == 2) = true := beq_iff_eq.mpr c3; have c3b1 : (a0 != 2) = false := bne_eq_false_iff_eq.mpr c3; clear c3
   (first | rw [c3b0] | (simp only [i64_w, i32_w]; rw [c3b0]) | skip)
   have H' := Aside0.mk H; clear H; go_wp2
   go_meet
   case rel => exact ⟨_, ((a0 == 2)), (by first | rfl | (simp; done) | (simp [*]; done)), H', ⟨by first | omega | exact Nat.le_refl _⟩, by repeat (first | exact Drawn0.refl _ | apply Drawn0.step)⟩
  ·rw [if_neg c3] at H; have c3b0 : (a0 == 2) = false := beq_eq_false_iff_ne.mpr c3; have c3b1 : (a0 != 2) = true := bne_iff_ne.mpr c3
   (first | rw [c3b0] | (simp only [i64_w, i32_w]; rw [c3b0]) | skip)
   by_cases c4 : a0 = 6
   ·rw [if_pos c4] at H; have c4b0 : (a0 == 6) = true := beq_iff_eq.mpr c4; have c4b1 : (a0 != 6) = false := bne_eq_false_iff_eq.mpr c4; clear c4; have H' := Aside0.mk H; clear H; go_wp2
    go_meet
    case rel => exact ⟨_, ((a0 == 6)), (by first | rfl | (simp; done) | (simp [*]; done)), H', ⟨by first | omega | exact Nat.le_refl _⟩, by repeat (first | exact Drawn0.refl _ | apply Drawn0.step)⟩
   ·rw [if_neg c4] at H; have c4b0 : (a0 == 6) = false := beq_eq_false_iff_ne.mpr c4; have c4b1 : (a0 != 6) = true := bne_iff_ne.mpr c4
    by_cases c5 : a0 = 7
    ·rw [if_pos c5] at H; have c5b0 : (a0 == 7) = true := beq_iff_eq.mpr c5; have c5b1 : (a0 != 7) = false := bne_eq_false_iff_eq.mpr c5; clear c5; have H' := Aside0.mk H; clear H; go_wp2
     go_meet
     case rel => exact ⟨_, ((a0 == 7)), (by first | rfl | (simp; done) | (simp [*]; done)), H', ⟨by first | omega | exact Nat.le_refl _⟩, by repeat (first | exact Drawn0.refl _ | apply Drawn0.step)⟩
    ·rw [if_neg c5] at H; have c5b0 : (a0 == 7) = false := beq_eq_false_iff_ne.mpr c5; have c5b1 : (a0 != 7) = true := bne_iff_ne.mpr c5
     by_cases c6 : a0 = 9
     ·rw [if_pos c6] at H; have c6b0 : (a0 == 9) = true := beq_iff_eq.mpr c6; have c6b1 : (a0 != 9) = false := bne_eq_false_iff_eq.mpr c6; clear c6; have H' := Aside0.mk H; clear H; go_wp2
      go_meet
      case rel => exact ⟨_, ((a0 == 9)), (by first | rfl | (simp; done) | (simp [*]; done)), H', ⟨by first | omega | exact Nat.le_refl _⟩, by repeat (first | exact Drawn0.refl _ | apply Drawn0.step)⟩
     ·rw [if_neg c6] at H; have c6b0 : (a0 == 9) = false := beq_eq_false_iff_ne.mpr c6; have c6b1 : (a0 != 9) = true := bne_iff_ne.mpr c6; have H' := Aside0.mk H; clear H; go_wp2
      go_meet
      case rel => exact ⟨_, ((a0 == 10)), (by first | rfl | (simp; done) | (simp [*]; done)), H', ⟨by first | omega | exact Nat.le_refl _⟩, by repeat (first | exact Drawn0.refl _ | apply Drawn0.step)⟩
 case rest =>
  clear HC2; (try clear c3); (try clear c3b0); (try clear c3b1); (try clear c4); (try clear c4b0); (try clear c4b1); (try clear c5); (try clear c5b0); (try clear c5b1); (try clear c6); (try clear c6b0); (try clear c6b1); obtain ⟨kq, x4_1, rfl, HA, HJ1, ⟨mc1, rfl⟩⟩ := hcut; cases kq with
  | zero => exact absurd HA.out (by simp [frame_status.j0])
  | succ kj1 =>
   have H := HA.out; clear HA; simp only [frame_status.j0] at H
   by_cases c7 : x4_1 = true
   ·subst c7; rw [if_pos rfl] at H; obtain rfl := Option.some.inj H; go_wp2; go_ret
    exact ⟨by first | rfl | (simp; done) | (simp [*]; done), by repeat (first | exact Drawn0.refl _ | apply Drawn0.step)⟩
   ·replace c7 := Bool.eq_false_iff.mpr c7; subst c7; rw [if_neg (show ¬ (false = true) by decide)] at H; have HC8 := Aside0.mk H; clear H
    go_upto_if 10 with (fail)
    go_cut [10] (fun v10 wc => ∃ (kq : Nat) (x10_7 : Bool), v10 = .bool x10_7 ∧ Aside0 (frame_status.j1 kq a0 x10_7 = some r) ∧ Aside0 (kq ≤ kj1) ∧ Drawn0 w wc)
    case first =>
     have H := HC8.out; clear HC8
     by_cases c9 : a0 = 1
     ·rw [if_pos c9] at H; have c9b0 : (a0 == 1) = true := beq_iff_eq.mpr c9; have c9b1 : (a0 != 1) = false := bne_eq_false_iff_eq.mpr c9; clear c9
      (first | rw [c9b0] | (simp only [i64_w, i32_w]; rw [c9b0]) | skip)
      have H' := Aside0.mk H; clear H; go_wp2
      go_meet
      case rel => exact ⟨_, ((a0 == 1)), (by first | rfl | (simp; done) | (simp [*]; done)), H', ⟨by have := HJ1.out; first | omega | exact Nat.le_refl _⟩, by repeat (first | exact Drawn0.refl _ | apply Drawn0.step)⟩
     ·rw [if_neg c9] at H; have c9b0 : (a0 == 1) = false := beq_eq_false_iff_ne.mpr c9; have c9b1 : (a0 != 1) = true := bne_iff_ne.mpr c9
      (first | rw [c9b0] | (simp only [i64_w, i32_w]; rw [c9b0]) | skip)
      have H' := Aside0.mk H; clear H; go_wp2
      go_meet
      case rel => exact ⟨_, ((a0 == 5)), (by first | rfl | (simp; done) | (simp [*]; done)), H', ⟨by have := HJ1.out; first | omega | exact Nat.le_refl _⟩, by repeat (first | exact Drawn0.refl _ | apply Drawn0.step)⟩
    case rest =>
     clear HC8; (try clear c3); (try clear c3b0); (try clear c3b1); (try clear c4); (try clear c4b0); (try clear c4b1); (try clear c5); (try clear c5b0); (try clear c5b1); (try clear c6); (try clear c6b0); (try clear c6b1); (try clear c7); (try clear c9); (try clear c9b0); (try clear c9b1); obtain ⟨kq, x10_7, rfl, HA, HJ7, ⟨mc7, rfl⟩⟩ := hcut; cases kq with
     | zero => exact absurd HA.out (by simp [frame_status.j1])
     | succ kj7 =>
      have H := HA.out; clear HA; simp only [frame_status.j1] at H
      by_cases c10 : x10_7 = true
      ·subst c10; rw [if_pos rfl] at H; obtain rfl := Option.some.inj H; go_wp2; go_ret
       exact ⟨by first | rfl | (simp; done) | (simp [*]; done), by repeat (first | exact Drawn0.refl _ | apply Drawn0.step)⟩
      ·replace c10 := Bool.eq_false_iff.mpr c10; subst c10; rw [if_neg (show ¬ (false = true) by decide)] at H
       by_cases c11 : a0 = 3
       ·rw [if_pos c11] at H; have c11b0 : (a0 == 3) = true := beq_iff_eq.mpr c11; have c11b1 : (a0 != 3) = false := bne_eq_false_iff_eq.mpr c11; clear c11; obtain rfl := Option.some.inj H; go_wp2; go_ret
        exact ⟨by first | rfl | (simp; done) | (simp [*]; done), by repeat (first | exact Drawn0.refl _ | apply Drawn0.step)⟩
       ·rw [if_neg c11] at H; have c11b0 : (a0 == 3) = false := beq_eq_false_iff_ne.mpr c11; have c11b1 : (a0 != 3) = true := bne_iff_ne.mpr c11
        by_cases c12 : a0 = 4
        ·rw [if_pos c12] at H; have c12b0 : (a0 == 4) = true := beq_iff_eq.mpr c12; have c12b1 : (a0 != 4) = false := bne_eq_false_iff_eq.mpr c12; clear c12; obtain rfl := Option.some.inj H; go_wp2; go_ret
         exact ⟨by first | rfl | (simp; done) | (simp [*]; done), by repeat (first | exact Drawn0.refl _ | apply Drawn0.step)⟩
        ·rw [if_neg c12] at H; have c12b0 : (a0 == 4) = false := beq_eq_false_iff_ne.mpr c12; have c12b1 : (a0 != 4) = true := bne_iff_ne.mpr c12
         by_cases c13 : a0 = 8
         ·rw [if_pos c13] at H; have c13b0 : (a0 == 8) = true := beq_iff_eq.mpr c13; have c13b1 : (a0 != 8) = false := bne_eq_false_iff_eq.mpr c13; clear c13; obtain rfl := Option.some.inj H; go_wp2; go_ret
          exact ⟨by first | rfl | (simp; done) | (simp [*]; done), by repeat (first | exact Drawn0.refl _ | apply Drawn0.step)⟩
         ·rw [if_neg c13] at H; have c13b0 : (a0 == 8) = false := beq_eq_false_iff_ne.mpr c13; have c13b1 : (a0 != 8) = true := bne_iff_ne.mpr c13
          by_cases c14 : a0 = 11
          ·rw [if_pos c14] at H; have c14b0 : (a0 == 11) = true := beq_iff_eq.mpr c14; have c14b1 : (a0 != 11) = false := bne_eq_false_iff_eq.mpr c14; clear c14; obtain rfl := Option.some.inj H; go_wp2; go_ret
           exact ⟨by first | rfl | (simp; done) | (simp [*]; done), by repeat (first | exact Drawn0.refl _ | apply Drawn0.step)⟩
          ·rw [if_neg c14] at H; have c14b0 : (a0 == 11) = false := beq_eq_false_iff_ne.mpr c14; have c14b1 : (a0 != 11) = true := bne_iff_ne.mpr c14
           by_cases c15 : a0 = 12
           ·rw [if_pos c15] at H; have c15b0 : (a0 == 12) = true := beq_iff_eq.mpr c15; have c15b1 : (a0 != 12) = false := bne_eq_false_iff_eq.mpr c15; clear c15; obtain rfl := Option.some.inj H; go_wp2; go_ret
            exact ⟨by first | rfl | (simp; done) | (simp [*]; done), by repeat (first | exact Drawn0.refl _ | apply Drawn0.step)⟩
           ·rw [if_neg c15] at H; have c15b0 : (a0 == 12) = false := beq_eq_false_iff_ne.mpr c15; have c15b1 : (a0 != 12) = true := bne_iff_ne.mpr c15; obtain rfl := Option.some.inj H; go_wp2; go_ret
            exact ⟨by first | rfl | (simp; done) | (simp [*]; done), by repeat (first | exact Drawn0.refl _ | apply Drawn0.step)⟩

/-! ### frame_reads: function 45 -/
def frame_reads.f (a0 : Int) : Option (Bool) := if a0 ≥ 1 then (some (decide (a0 ≤ 4))) else (some false)
set_option maxHeartbeats 8000000 in
set_option maxRecDepth 100000 in
theorem frame_reads.calls (a0 : Int) (r : Bool) (w : World) (h : frame_reads.f a0 = some r) :
  Calls Try.prog 45 #[.int .i64 a0] w fun e w' => e = .returned (.bool r) ∧ Drawn0 w w' := by
 have H : (if a0 ≥ 1 then (some (decide (a0 ≤ 4))) else (some false)) = some r := h; clear h
 by_cases c2 : a0 ≥ 1
 ·rw [if_pos c2] at H; have c2b0 : decide (1 ≤ a0) = true := decide_eq_true c2; clear c2; obtain rfl := Option.some.inj H; go_enter Try.func45, Try.ntmps45; go_wp2; go_ret
  exact ⟨by first | rfl | (simp; done) | (simp [*]; done), by repeat (first | exact Drawn0.refl _ | apply Drawn0.step)⟩
 ·rw [if_neg c2] at H; have c2b0 : decide (1 ≤ a0) = false := decide_eq_false c2; clear c2; obtain rfl := Option.some.inj H; go_enter Try.func45, Try.ntmps45; go_wp2; go_ret
  exact ⟨by first | rfl | (simp; done) | (simp [*]; done), by repeat (first | exact Drawn0.refl _ | apply Drawn0.step)⟩

/-! ### frame_number: function 46 -/
def frame_number.f (k : Nat) (a0 : Int) (a1 : Int) : Option (ByteArray) := if 0 ≤ a1 then (if (a1 : Int).toNat ≤ 281474976710656 then ((frame_put.f k (List.replicate (a1 : Int).toNat 0) a0).bind fun t225 => (some (strOfNums t225))) else (none)) else (none)
theorem frame_number.mono : ∀ a0 a1 k, LeO (frame_number.f k a0 a1) (frame_number.f (k + 1) a0 a1) := by
 intro a0 a1 k
 unfold frame_number.f
 repeat' first | (with_reducible first | apply frame_put.mono | exact LeO.refl _ | exact LeO.none _ | refine LeO.ite ?_ ?_ | refine LeO.bind ?_ (fun _ => ?_)) | apply frame_put.mono | exact LeO.none _ | refine LeO.ite ?_ ?_ | refine LeO.bind ?_ (fun _ => ?_)
set_option maxHeartbeats 8000000 in
set_option maxRecDepth 100000 in
theorem frame_number.calls (k : Nat) (a0 : Int) (a1 : Int) (r : ByteArray) (w : World) (h : frame_number.f k a0 a1 = some r) :
  Calls Try.prog 46 #[.int .u64 a0, .int .i64 a1] w fun e w' => e = .returned (.string r) ∧ Below w.heap.size w w' := by
 have HB := Aside0.mk (Below.refl w.heap.size w); have H : (if 0 ≤ a1 then (if (a1 : Int).toNat ≤ 281474976710656 then ((frame_put.f k (List.replicate (a1 : Int).toNat 0) a0).bind fun t225 => (some (strOfNums t225))) else (none)) else (none)) = some r := h; clear h
 by_cases c3 : 0 ≤ a1
 ·rw [if_pos c3] at H; have c3b0 := eq_true c3; have c3b1 : decide (0 ≤ a1) = true := decide_eq_true c3; clear c3
  by_cases c4 : (a1 : Int).toNat ≤ 281474976710656
  ·rw [if_pos c4] at H; have c4b0 := eq_true c4; have c4b1 : decide ((a1 : Int).toNat ≤ 281474976710656) = true := decide_eq_true c4; clear c4; obtain ⟨y222, hy222⟩ : ∃ y_ : List Int, y_ = (List.replicate (a1 : Int).toNat 0) := ⟨_, rfl⟩; replace H : ((frame_put.f k y222 a0).bind fun t225 => (some (strOfNums t225))) = some r := by first | (rw [hy222]; with_reducible exact H) | (have H2_ := (Option.bind_some _ _).symm.trans H; rw [hy222]; with_reducible exact H2_) | (have H2_ := (Option.bind_some _ _).symm.trans H; with_reducible exact H2_) | with_reducible exact H | (rw [hy222]; exact H) | exact H
   have Ny222 := Aside0.mk hy222; clear hy222; replace H := Option.bind_eq_some_iff.mp H; obtain ⟨t225, A50, H⟩ := H; (try dsimp only at H); have A5 := Aside0.mk A50; clear A50; obtain rfl := Option.some.inj H; go_enter Try.func46, Try.ntmps46
   go_wp2_with (first | ((with_reducible refine gate_dst (N := 7) rfl ?_); refine Kd.R_make (Kd.int .u8) _ 5 rfl (N := 7) rfl 46 _ _ rfl a1 rfl rfl Try.underlying46 (.int .u8 0) 1 info5 rfl (by decide) (by omega) 0 (ok := fun _ => True) (okp := fun _ => True) rfl (fun _ hk => hk) trivial (of_decide_eq_true (by first | (with_reducible assumption) | assumption)) (Nat.le_trans (Nat.mul_le_mul_right _ (of_decide_eq_true (by first | (with_reducible assumption) | assumption) : a1.toNat ≤ 281474976710656)) (by omega)) (Below.refl _ _) (Nat.le_refl _) ?_; intro v223 w6 ho7 hb hg_ hnew_; clear hg_ hnew_; (first | rw [← Ny222.out] at ho7 | (simp only [Int.reduceToNat] at ho7; rw [← Ny222.out] at ho7)); have HO224 := Aside0.mk (Kd.R_lower ho7 (below_size (bH HB.out))); replace HB := rS HB hb; clear hb ho7; obtain ⟨Ao8, co8, eo8⟩ := Kd.R_slice HO224.out; subst eo8) | ((with_reducible refine gate_callee (f := 38) rfl ?_); refine gL (some 10) rfl rfl Try.func38 #[.slice Ao8 y222.length co8, .int .u64 a0] rfl ?_; (with_reducible refine (frame_put.calls k (fun k_ => some k_ = (.slice Ao8 y222.length co8 : Value).ownBlock) (.slice Ao8 y222.length co8) y222 a0 t225 w _ ?side1 ?side2 A5.out).mono ?_); (case side1 => repeat (first | (with_reducible first | exact HB.out | apply eA | apply eN | apply eD) | exact HB.out)); (case side2 => exact Kd.R_tight rfl HO224.out); rintro e w9 ⟨rfl, hy0, hb, hkp⟩; refine ⟨_, rfl, ?_⟩; replace HO224 := Aside0.mk (Kd.R_reok rfl hy0 (fun k_ e_ => HO224.out.1 k_ e_)); replace HB := Aside0.mk (hb); (try clear hb); (try clear hkp); (try clear hy0); have hcv10 := own_string (P := Try.prog) Try.underlying46 Try.underlying5 Try.underlying9 (Kd.own_of_R HO224.out)))
   go_ret
   exact ⟨xR, bH HB.out⟩
  ·rw [if_neg c4] at H; exact absurd H (by simp)
 ·rw [if_neg c3] at H; exact absurd H (by simp)

end Go.Proofs.Ytdepkgikdmlgiaa.P
