/- Lean functions for the Go functions that the laws of this seat use, and the proofs that the Go code computes them; conditions: the readings that each theorem names. Written by a program. -/
import Derived.Test.YtdepkgikdmlgiaaPx0
import Derived.Test.YtdepkgikdmlgiaaShort
namespace Go.Proofs.Ytdepkgikdmlgiaa.P
open Go.RowKit Go.Proofs.YtdepkgikdmlgiaaW.PrintWords Go.Proofs.YtdepkgikdmlgiaaW.PrintLast Go.Proofs.YtdepkgikdmlgiaaW.PrintMore
set_option linter.unusedVariables false
set_option linter.unusedSimpArgs false

/-! ### tallboylaw29_Great: function 11 -/
def tallboylaw29_Great.f (a0_0 : Bool) (a0_1 : Int) (a0_2 : Int) (a0_3 : Int) (a0_4 : Int) (a0_5 : ByteArray) (a0_6 : ByteArray) (a0_7 : ByteArray) : Option (Bool) := if (a0_7.size : Int) > 20000 then (some true) else (if (a0_6.size : Int) > 20000 then (some true) else (some (decide ((a0_5.size : Int) > 20000))))
set_option maxHeartbeats 8000000 in
set_option maxRecDepth 100000 in
theorem tallboylaw29_Great.calls (a0_0 : Bool) (a0_1 : Int) (a0_2 : Int) (a0_3 : Int) (a0_4 : Int) (a0_5 : ByteArray) (a0_6 : ByteArray) (a0_7 : ByteArray) (r : Bool) (w : World) (h : tallboylaw29_Great.f a0_0 a0_1 a0_2 a0_3 a0_4 a0_5 a0_6 a0_7 = some r) :
  Calls Try.prog 11 #[.agg #[.bool a0_0, .int .u8 a0_1, .int .u16 a0_2, .int .u32 a0_3, .int .u64 a0_4, .string a0_5, .string a0_6, .string a0_7]] w fun e w' => e = .returned (.bool r) ∧ Below w.heap.size w w' := by
 have hu26 := Try.underlying26; have HB := Aside0.mk (Below.refl w.heap.size w); have H : (if (a0_7.size : Int) > 20000 then (some true) else (if (a0_6.size : Int) > 20000 then (some true) else (some (decide ((a0_5.size : Int) > 20000))))) = some r := h; clear h
 by_cases c2 : (a0_7.size : Int) > 20000
 ·rw [if_pos c2] at H; have c2b0 : decide (20000 < (a0_7.size : Int)) = true := decide_eq_true c2; have c2b1 : decide (20000 < a0_7.size) = true := decide_eq_true (by omega); clear c2; obtain rfl := Option.some.inj H; go_enter Try.func11, Try.ntmps11
  go_wp2_with (first | ((with_reducible refine gate_dst (N := 1) rfl ?_); (try (refine gate_guard (by rfl) ?_; dsimp only)); refine bE 1 #[.bool a0_0, .int .u8 a0_1, .int .u16 a0_2, .int .u32 a0_3, .int .u64 a0_4, .string a0_5, .string a0_6, .string a0_7] 26 rfl rfl ?_; intro gb101 hg w3 hbox hb; have BK101 := rM hbox; have GW101 := rG HB hg; replace HB := rS HB hb; have GE101 := GW101; clear hb hbox hg; obtain ⟨hcz4, hfz4⟩ := d8 BK101))
  go_ret
  exact ⟨xR, bH HB.out⟩
 ·rw [if_neg c2] at H; have c2b0 : decide (20000 < (a0_7.size : Int)) = false := decide_eq_false c2; have c2b1 : decide (20000 < a0_7.size) = false := decide_eq_false (by omega); clear c2
  by_cases c5 : (a0_6.size : Int) > 20000
  ·rw [if_pos c5] at H; have c5b0 : decide (20000 < (a0_6.size : Int)) = true := decide_eq_true c5; have c5b1 : decide (20000 < a0_6.size) = true := decide_eq_true (by omega); clear c5; obtain rfl := Option.some.inj H; go_enter Try.func11, Try.ntmps11
   go_wp2_with (first | ((with_reducible refine gate_dst (N := 1) rfl ?_); (try (refine gate_guard (by rfl) ?_; dsimp only)); refine bE 1 #[.bool a0_0, .int .u8 a0_1, .int .u16 a0_2, .int .u32 a0_3, .int .u64 a0_4, .string a0_5, .string a0_6, .string a0_7] 26 rfl rfl ?_; intro gb101 hg w6 hbox hb; have BK101 := rM hbox; have GW101 := rG HB hg; replace HB := rS HB hb; have GE101 := GW101; clear hb hbox hg; obtain ⟨hcz7, hfz7⟩ := d8 BK101))
   go_ret
   exact ⟨xR, bH HB.out⟩
  ·rw [if_neg c5] at H; have c5b0 : decide (20000 < (a0_6.size : Int)) = false := decide_eq_false c5; have c5b1 : decide (20000 < a0_6.size) = false := decide_eq_false (by omega); clear c5; obtain rfl := Option.some.inj H; go_enter Try.func11, Try.ntmps11
   go_wp2_with (first | ((with_reducible refine gate_dst (N := 1) rfl ?_); (try (refine gate_guard (by rfl) ?_; dsimp only)); refine bE 1 #[.bool a0_0, .int .u8 a0_1, .int .u16 a0_2, .int .u32 a0_3, .int .u64 a0_4, .string a0_5, .string a0_6, .string a0_7] 26 rfl rfl ?_; intro gb101 hg w8 hbox hb; have BK101 := rM hbox; have GW101 := rG HB hg; replace HB := rS HB hb; have GE101 := GW101; clear hb hbox hg; obtain ⟨hcz9, hfz9⟩ := d8 BK101))
   go_ret
   exact ⟨xR, bH HB.out⟩

/-! ### frame_fits: function 37 -/
def frame_fits.f (a0 : Int) (a1 : Int) (a2 : Int) : Option (Bool) := if a0 ≤ 250 then (if a1 ≤ 20 then (some (decide (a2 ≤ 1048576))) else (some false)) else (some false)
set_option maxHeartbeats 8000000 in
set_option maxRecDepth 100000 in
theorem frame_fits.calls (a0 : Int) (a1 : Int) (a2 : Int) (r : Bool) (w : World) (h : frame_fits.f a0 a1 a2 = some r) :
  Calls Try.prog 37 #[.int .i64 a0, .int .i64 a1, .int .i64 a2] w fun e w' => e = .returned (.bool r) ∧ Drawn0 w w' := by
 have H : (if a0 ≤ 250 then (if a1 ≤ 20 then (some (decide (a2 ≤ 1048576))) else (some false)) else (some false)) = some r := h; clear h
 by_cases c4 : a0 ≤ 250
 ·rw [if_pos c4] at H; have c4b0 : decide (a0 ≤ 250) = true := decide_eq_true c4; clear c4
  by_cases c5 : a1 ≤ 20
  ·rw [if_pos c5] at H; have c5b0 : decide (a1 ≤ 20) = true := decide_eq_true c5; clear c5; obtain rfl := Option.some.inj H; go_enter Try.func37, Try.ntmps37; go_wp2; go_ret
   exact ⟨by first | rfl | (simp; done) | (simp [*]; done), by repeat (first | exact Drawn0.refl _ | apply Drawn0.step)⟩
  ·rw [if_neg c5] at H; have c5b0 : decide (a1 ≤ 20) = false := decide_eq_false c5; clear c5; obtain rfl := Option.some.inj H; go_enter Try.func37, Try.ntmps37; go_wp2; go_ret
   exact ⟨by first | rfl | (simp; done) | (simp [*]; done), by repeat (first | exact Drawn0.refl _ | apply Drawn0.step)⟩
 ·rw [if_neg c4] at H; have c4b0 : decide (a0 ≤ 250) = false := decide_eq_false c4; clear c4; obtain rfl := Option.some.inj H; go_enter Try.func37, Try.ntmps37; go_wp2; go_ret
  exact ⟨by first | rfl | (simp; done) | (simp [*]; done), by repeat (first | exact Drawn0.refl _ | apply Drawn0.step)⟩

/-! ### frame_put: function 38 -/
def frame_put.l0 : Nat → List Int → Int → Int → Int → Option (List Int)
 | 0, _, _, _, _ => none
 | k + 1, x0, x1, x6, x7 => if x7 < x6 then (if 0 ≤ (wrap64 ((wrap64 ((x0.length : Int) - 1)) - x7)) then (if (wrap64 ((wrap64 ((x0.length : Int) - 1)) - x7)) < (x0.length : Int) then (frame_put.l0 k (x0.set ((wrap64 ((wrap64 ((x0.length : Int) - 1)) - x7)) : Int).toNat ((x1) % 256)) (x1 / 256) x6 (wrap64 (x7 + 1))) else (none)) else (none)) else (some x0)
def frame_put.f (k : Nat) (l0 : List Int) (a1 : Int) : Option (List Int) := frame_put.l0 k l0 a1 (l0.length : Int) 0
set_option maxHeartbeats 8000000 in
set_option maxRecDepth 100000 in
theorem frame_put.calls (k : Nat) (P0_ : Nat → Prop) (u9000_ : Value) (l0 : List Int) (a1 : Int) (r : List Int) (w0 w : World) (hB : Below w0.heap.size w0 w) (ho0 : Kd.R (Kd.int .u8) 5 w w0.heap.size P0_ u9000_ l0) (h : frame_put.f k l0 a1 = some r) :
  Calls Try.prog 38 #[u9000_, .int .u64 a1] w fun e w' => e = .returned (.tuple #[]) ∧ Kd.R (Kd.int .u8) 5 w' w0.heap.size (fun k_ => (P0_ k_ ∨ w.heap.size ≤ k_)) u9000_ r ∧ Below w0.heap.size w0 w' ∧ Kept w w' (fun k_ => P0_ k_) := by
 have HO0 := Aside0.mk (show Kd.R (Kd.int .u8) 5 w w0.heap.size (fun k_ => (P0_ k_ ∨ w.heap.size ≤ k_)) u9000_ l0 from Kd.R_mono ho0 (fun k_ hk => (.inl hk))); have HK := Aside0.mk (Kept.refl w (fun k_ => P0_ k_)); have HW0 := Aside0.mk hB.size; have HB := Aside0.mk hB; clear hB; have H : (frame_put.l0 k l0 a1 (l0.length : Int) 0) = some r := h; clear h; have H' := Aside0.mk H; clear H; obtain ⟨Ao3, co3, eo3⟩ := Kd.R_slice HO0.out; subst eo3; go_enter Try.func38, Try.ntmps38; go_wp2
 go_loopg [1, 7] k (fun kq v1 v7 w' => ∃ (x0_1 : List Int) (x1_1 : Int) (x7_1 : Int), v1 = .int .u64 x1_1 ∧ v7 = .int .i64 x7_1 ∧ Aside0 (frame_put.l0 kq x0_1 x1_1 (l0.length : Int) x7_1 = some r) ∧ Aside0 (kq ≤ k) ∧ Aside0 (Kd.R (Kd.int .u8) 5 w' w0.heap.size (fun k_ => (P0_ k_ ∨ w.heap.size ≤ k_)) (.slice Ao3 l0.length co3) x0_1) ∧ Aside0 (Kept w w' (fun k_ => P0_ k_)) ∧ Aside0 (Below w0.heap.size w0 w'))
 case atStart => exact ⟨(l0), (a1), (0), (by first | rfl | (simp; done) | (simp [*]; done)), (by first | rfl | (simp; done) | (simp [*]; done)), H', ⟨Nat.le_refl _⟩, ⟨by (with_reducible repeat (first | apply Kd.R_alloc | apply Kd.R_drewN | apply Kd.R_drew)); exact HO0.out⟩, ⟨by repeat (first | (with_reducible first | exact HK.out | apply Kept.alloc | apply Kept.drewN | apply Kept.drew) | exact HK.out)⟩, ⟨bH HB.out⟩⟩
 case round =>
  clear H'; obtain ⟨x0_1, x1_1, x7_1, rfl, rfl, HA, HK1, HO_0, HK, HB⟩ := hrel; have hl0_1 := (Kd.R_reads' HO_0.out).1; rw [hl0_1] at HO_0
  (try simp only [hl0_1])
  cases gk with
  | zero => exact absurd HA.out (by simp [frame_put.l0])
  | succ k1 =>
   have H := HA.out; clear HA; simp only [frame_put.l0] at H
   by_cases c4 : x7_1 < (l0.length : Int)
   ·rw [if_pos c4] at H; have c4b0 : decide (x7_1 < (l0.length : Int)) = true := decide_eq_true c4; clear c4; have c4q0 := c4b0; (try simp only [hl0_1] at c4q0); obtain ⟨ji5, hji5⟩ : ∃ j_ : Int, (wrap64 ((wrap64 ((x0_1.length : Int) - 1)) - x7_1)) = j_ := ⟨_, rfl⟩; replace H : (if 0 ≤ (ji5) then (if (ji5) < (x0_1.length : Int) then (frame_put.l0 k1 (x0_1.set ((ji5) : Int).toNat ((x1_1) % 256)) (x1_1 / 256) (l0.length : Int) (wrap64 (x7_1 + 1))) else (none)) else (none)) = some r := by first | (rw [hji5] at H; exact H) | (simp only [hji5] at H ⊢; exact H)
    have hji5w : (IntKind.i64.wrap ((wrap64 ((x0_1.length : Int) - 1)) - x7_1)) = ji5 := (i64_w _).trans hji5
    by_cases c6 : 0 ≤ (ji5)
    ·rw [if_pos c6] at H; have c6b0 : decide (0 ≤ (ji5)) = true := decide_eq_true c6; clear c6
     by_cases c7 : (ji5) < (x0_1.length : Int)
     ·rw [if_pos c7] at H; have c7b0 : decide ((ji5) < (x0_1.length : Int)) = true := decide_eq_true c7; clear c7; obtain ⟨y102, hy102⟩ : ∃ y_ : List Int, y_ = (x0_1.set ((ji5) : Int).toNat ((x1_1) % 256)) := ⟨_, rfl⟩; replace H : (frame_put.l0 k1 y102 (x1_1 / 256) (l0.length : Int) (wrap64 (x7_1 + 1))) = some r := by first | (rw [hy102]; with_reducible exact H) | (have H2_ := (Option.bind_some _ _).symm.trans H; rw [hy102]; with_reducible exact H2_) | (have H2_ := (Option.bind_some _ _).symm.trans H; with_reducible exact H2_) | with_reducible exact H | (rw [hy102]; exact H) | exact H
      have Ny102 := Aside0.mk hy102; clear hy102; have H' := Aside0.mk H; clear H; have p8 : 0 ≤ ((ji5) : Int) := of_decide_eq_true (by first | (with_reducible assumption) | assumption); have q8 : ((ji5) : Int) < ((x0_1.length : Int) : Int) := of_decide_eq_true (by first | (with_reducible assumption) | assumption)
      obtain ⟨go8, co8, eo8, gb8, gl8, cl8, HG8⟩ := Kd.R_form HO_0.out (by omega)
      (first | cases eo8 | (injection eo8 with ea_ en_ ec_; (first | subst ea_ | (injection ea_ with ea_; subst ea_)); subst ec_; clear en_))
      have GB8 := Aside0.mk gb8; have GG8 := Aside0.mk HG8; clear gb8 gl8 HG8; have HMgo8 := Aside0.mk (show (P0_ go8 ∨ w.heap.size ≤ go8) from (HO_0.out.1 _ rfl)); obtain ⟨hx8_0, hf8_0⟩ := Kd.R_celln 0 HO_0.out ((ji5) : Int) p8 q8; replace p8 := eq_true p8; replace q8 := eq_true q8; have HP9 := Kd.R_putg HO_0.out ((ji5) : Int) ((x1_1) % 256)
      go_wp2_with (first | ((with_reducible refine gate_store (t := 5) (p := 18) rfl ?_); refine store_event (t := 5) (p := 18) (v := ?vo_w10) (w1 := (wr.setCell ⟨go8, ((ji5) : Int).toNat, none⟩ (.int .u8 ((x1_1) % 256)))) ?hg ?ho ?hn ?hr ?_; (case ho => rfl); (case hg => rfl); (case hn => rfl); (case hr => first | (go_simp; done) | (go_simp; rfl)); intro w10 hw; have hg : wr.grownBy w10 (some go8) := (by rw [hw]; exact HP9.2); have hp_ : Kd.R (Kd.int .u8) 5 w10 w0.heap.size (fun k_ => (P0_ k_ ∨ w.heap.size ≤ k_)) (.slice (some ⟨go8, 0, none⟩) x0_1.length co3) y102 := (by rw [hw, Ny102.out]; exact HP9.1); clear HP9; replace HB := Aside0.mk ((by rw [hw]; exact eS (HB.out) GB8.out : Below w0.heap.size w0 w10)); replace HK := Aside0.mk (Kept.of_grown (S := (fun k_ => P0_ k_)) hg (by repeat (first | (with_reducible first | exact HK.out | apply Kept.alloc | apply Kept.drewN | apply Kept.drew) | exact HK.out)) (fun k_ e_ => (HO_0.out.1 k_ e_))); replace HO_0 := Aside0.mk (hp_); clear hg hw hp_))
      (try simp only [← hl0_1])
      go_roundg k1
      case measure => have := HK1.out; omega
      case rel => exact ⟨(y102), (x1_1 / 256), (wrap64 (x7_1 + 1)), (by first | rfl | (simp; done) | (simp [*]; done)), (by first | rfl | (simp; done) | (simp [*]; done)), H', ⟨by have := HK1.out; omega⟩, ⟨by (try simp only [hl0_1]); (with_reducible repeat (first | apply Kd.R_alloc | apply Kd.R_drewN | apply Kd.R_drew)); exact HO_0.out⟩, ⟨by repeat (first | (with_reducible first | exact HK.out | apply Kept.alloc | apply Kept.drewN | apply Kept.drew) | exact HK.out)⟩, ⟨bH HB.out⟩⟩
     ·rw [if_neg c7] at H; exact absurd H (by simp)
    ·rw [if_neg c6] at H; exact absurd H (by simp)
   ·rw [if_neg c4] at H; have c4b0 : decide (x7_1 < (l0.length : Int)) = false := decide_eq_false c4; clear c4; have c4q0 := c4b0; (try simp only [hl0_1] at c4q0); obtain rfl := Option.some.inj H; go_wp2
    first | go_end0 | ((try simp only [Exit.inBlock, Exit.then]); refine bodyPost_ret (results_none rfl _ _ _) rfl ?_)
    exact ⟨xR, (by first | exact (by (with_reducible repeat (first | apply Kd.R_alloc | apply Kd.R_drewN | apply Kd.R_drew)); exact HO_0.out) | (simp only [hl0_1]; exact (by (with_reducible repeat (first | apply Kd.R_alloc | apply Kd.R_drewN | apply Kd.R_drew)); exact HO_0.out))), by repeat (first | (with_reducible first | exact HB.out | apply eA | apply eN | apply eD) | exact HB.out), by repeat (first | (with_reducible first | exact HK.out | apply Kept.alloc | apply Kept.drewN | apply Kept.drew) | exact HK.out)⟩

end Go.Proofs.Ytdepkgikdmlgiaa.P
