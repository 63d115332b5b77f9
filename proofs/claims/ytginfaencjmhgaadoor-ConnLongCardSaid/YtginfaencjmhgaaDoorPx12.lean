/- Lean functions for the Go functions that the laws of this seat use, and the proofs that the Go code computes them; conditions: the readings that each theorem names. Written by a program. -/
import Derived.Test.YtginfaencjmhgaaDoorPx0
import Derived.Test.YtginfaencjmhgaaDoorPx5
import Derived.Test.YtginfaencjmhgaaDoorPx6
import Derived.Test.YtginfaencjmhgaaDoorPx9
import Derived.Test.YtginfaencjmhgaaDoorShort
import Derived.Test.YtginfaencjmhgaaDoorLd
import Derived.Test.YtginfaencjmhgaaDoorWAll
import Derived.WalkKit
namespace Go.Proofs.YtginfaencjmhgaaDoor.P
open Go.RowKit Go.Proofs.YtginfaencjmhgaaDoorW.PrintWords Go.Proofs.YtginfaencjmhgaaDoorW.PrintLast Go.Proofs.YtginfaencjmhgaaDoorW.PrintMore
attribute [local go_sem] min2_int min_two
set_option linter.unusedVariables false
set_option linter.unusedSimpArgs false

-- HAND
-- FN tallboy/line.Parse
-- ROUNDS 1
-- MAKING 1
-- LAID S
-- NEEDS tallboy/fnv.Key tallboy/digits.Parse tallboy/digits.Signed tallboy/verb.Kind tallboy/verb.Stores tallboy/line.words tallboy/line.timed tallboy/line.Words
-- IMPORT Derived.Test.YtginfaencjmhgaaDoorLd
-- IMPORT Derived.Test.YtginfaencjmhgaaDoorWMore
-- IMPORT Derived.Test.YtginfaencjmhgaaDoorWLast
-- IMPORT Derived.Test.YtginfaencjmhgaaDoorWInvWords
-- IMPORT Derived.WalkKit
-- IMPORT Derived.Test.YtginfaencjmhgaaDoorShort
/-! ### line.Parse, and the reader of words -/
def Rdr (ok : Nat → Prop) (W : World) (g : Nat) (f0 : List ByteArray) (f1 : Int) : Prop := ∃ A c, W.heap[g]? = some (.cells #[.slice A f0.length c, .int .i64 f1] 71 (0, 0)) ∧ f0.length ≤ c ∧ Kd.F Kd.string W ok A f0.length f0 ∧ ∀ k, ok k → k ≠ g
theorem Rdr.below {ok : Nat → Prop} {W w1 : World} {g : Nat} {f0 : List ByteArray} {f1 : Int} (h : Rdr ok W g f0 f1) (hb : Below W.heap.size W w1) : Rdr ok w1 g f0 f1 := by
 obtain ⟨A, c, h1, h2, h3, h4⟩ := h; exact ⟨A, c, blk_below h1 hb, h2, Kd.F_below h3 hb, h4⟩
theorem Rdr.drewN {ok : Nat → Prop} {W : World} {g : Nat} {f0 : List ByteArray} {f1 : Int} (h : Rdr ok W g f0 f1) (n : Nat) : Rdr ok (W.drewN n) g f0 f1 := h.below (eN (Below.refl _ _) n)
theorem Rdr.lt {ok : Nat → Prop} {W : World} {g : Nat} {f0 : List ByteArray} {f1 : Int} (h : Rdr ok W g f0 f1) : g < W.heap.size := by
 obtain ⟨A, c, h1, _⟩ := h; exact blk_lt h1
theorem Rdr.drew {ok : Nat → Prop} {W : World} {g : Nat} {f0 : List ByteArray} {f1 : Int} (h : Rdr ok W g f0 f1) : Rdr ok W.drew g f0 f1 := h.below (below_drew (Below.refl _ _))
theorem Rdr.grown {ok : Nat → Prop} {W w1 : World} {g : Nat} {f0 : List ByteArray} {f1 : Int} {row : Option Nat} (h : Rdr ok W g f0 f1) (hg : W.grownBy w1 row) (hr : some g ≠ row) (hok : ∀ k, ok k → some k ≠ row) : Rdr ok w1 g f0 f1 := by
 obtain ⟨A, c, h1, h2, h3, h4⟩ := h; exact ⟨A, c, blk_grown h1 hg hr, h2, Kd.F_grown h3 hg hok, h4⟩
theorem Rdr.far {ok : Nat → Prop} {W : World} {g : Nat} {f0 : List ByteArray} {f1 : Int} (h : Rdr ok W g f0 f1) {p : Addr} (hg : g ≠ p.block) (hok : ∀ k, ok k → k ≠ p.block) (u : Value) : Rdr ok (W.setCell p u) g f0 f1 := by
 obtain ⟨A, c, h1, h2, h3, h4⟩ := h; exact ⟨A, c, blk_far h1 hg u, h2, Kd.F_far h3 hok u, h4⟩
theorem Rdr.set0 {ok ok' : Nat → Prop} {W : World} {g : Nat} {f0 ys : List ByteArray} {f1 : Int} {A : Option Addr} {c : Nat} (h : Rdr ok W g f0 f1) (hc : ys.length ≤ c) (hF : Kd.F Kd.string W ok' A ys.length ys) (h4 : ∀ k, ok' k → k ≠ g) : Rdr ok' (W.setCell ⟨g, 0, none⟩ (.slice A ys.length c)) g ys f1 := by
 obtain ⟨A', c', h1, h2, h3, _⟩ := h; exact ⟨A, c, by simpa using blk_set h1 0 (.slice A ys.length c), hc, Kd.F_far (p := ⟨g, 0, none⟩) hF h4 _, h4⟩
theorem Rdr.set1 {ok : Nat → Prop} {W : World} {g : Nat} {f0 : List ByteArray} {f1 : Int} (h : Rdr ok W g f0 f1) (x : Int) : Rdr ok (W.setCell ⟨g, 1, none⟩ (.int .i64 x)) g f0 x := by
 obtain ⟨A, c, h1, h2, h3, h4⟩ := h; exact ⟨A, c, by simpa using blk_set h1 1 (.int .i64 x), h2, Kd.F_far (p := ⟨g, 1, none⟩) h3 h4 _, h4⟩
theorem Rdr.new {ok : Nat → Prop} {W : World} {A : Option Addr} {c : Nat} {f0 : List ByteArray} (f1 : Int) (hc : f0.length ≤ c) (h : Kd.F Kd.string W ok A f0.length f0) (hok : ∀ k, ok k → k < W.heap.size) : Rdr ok (W.alloc (.cells #[.slice A f0.length c, .int .i64 f1] 71)) W.heap.size f0 f1 :=
 ⟨A, c, by simpa using heap_alloc_new W _, hc, Kd.F_alloc h _, fun k hk => Nat.ne_of_lt (hok k hk)⟩
set_option maxHeartbeats 1000000 in
theorem Rdr.next {ok : Nat → Prop} (g : Nat) (x : ByteArray) (xs : List ByteArray) (f1 : Int) (w0 w : World) (hI : Rdr ok w g (x :: xs) f1) (hB : Below w0.heap.size w0 w) (hg : w0.heap.size ≤ g) :
  Calls Tryd.prog 46 #[.pointer (some ⟨g, 0, none⟩)] w fun e w' => e = .returned (.string x) ∧ Rdr ok w' g xs f1 ∧ Below w0.heap.size w0 w' ∧ KeepBut w w' g none := by
 have HI := Aside0.mk hI; obtain ⟨A, c, hb, hc, hF, hok⟩ := hI; have HF := Aside0.mk (Kd.F_cut (m := 1) hF (by simp) hc); have HOK := Aside0.mk hok; have HB := Aside0.mk hB; have HG := Aside0.mk hg; have HM := Aside0.mk (Kd.F_max hF); obtain ⟨ad, rfl, hcell⟩ := Kd.at_string (Kd.F_now hF) (0 : Int) (by omega) (by simp); have hcell0 : w.cell? ad = some (.string x) := by simpa [Addr.add, rdOf] using hcell
 clear hcell; obtain ⟨n, hn⟩ : ∃ n, n = xs.length := ⟨_, rfl⟩; have hcz0 : w.cell? ⟨g, 0, none⟩ = some (.slice (some ad) (n + 1) c) := by rw [hn]; exact (blk_cell hb 0).trans rfl
 have hfz0 : w.frozen? ⟨g, 0, none⟩ = false := blk_frozen hb 0; have HC := Aside0.mk hc; have HN := Aside0.mk hn; have h1 : 0 < n + 1 := by omega
 have h2 : 1 ≤ n + 1 := by omega
 have h3 : n + 1 ≤ c := by rw [hn]; exact hc
 clear hF hB hg hb hc hn hok; go_enter Tryd.func46, Tryd.ntmps46; go_wp2
 all_goals
  go_ret
  have hh := HF.out; simp only [List.drop_succ_cons, List.drop_zero] at hh; refine ⟨rfl, ?_, eS HB.out HG.out, KeepBut.set_ (KeepBut.refl _ _ _) _ _⟩
  have hN := HN.out; subst hN; refine HI.out.set0 (by omega) ?_ HOK.out
  first | (rw [if_neg (by assumption)] at hh; exact hh) | (rw [if_pos (by assumption)] at hh; exact hh) | (rw [if_pos rfl] at hh; exact hh)
def wrV (b : Bool) (v f1 : Int) : Int := if b = true ∧ f1 = 0 then v else f1
set_option maxHeartbeats 1000000 in
theorem Rdr.wrong {ok : Nat → Prop} (g : Nat) (f0 : List ByteArray) (f1 : Int) (b : Bool) (v : Int) (w0 w : World) (hI : Rdr ok w g f0 f1) (hB : Below w0.heap.size w0 w) (hg : w0.heap.size ≤ g) :
  Calls Tryd.prog 44 #[.pointer (some ⟨g, 0, none⟩), .bool b, .int .i64 v] w fun e w' => e = .returned (.tuple #[]) ∧ Rdr ok w' g f0 (wrV b v f1) ∧ Below w0.heap.size w0 w' ∧ KeepBut w w' g none := by
 have HI := Aside0.mk hI; obtain ⟨A, c, hb, hc, hF, hok⟩ := hI; have HB := Aside0.mk hB; have HG := Aside0.mk hg; have hcz1 : w.cell? ⟨g, 1, none⟩ = some (.int .i64 f1) := (blk_cell hb 1).trans rfl; have hfz1 : w.frozen? ⟨g, 1, none⟩ = false := blk_frozen hb 1; clear hF hB hg hb hc hok; cases b with
 | true =>
  by_cases h : f1 = 0
  ·have h0 : (f1 == 0) = true := beq_iff_eq.2 h; have H := Aside0.mk h; clear h; go_enter Tryd.func44, Tryd.ntmps44; go_wp2
   first | go_end0 | ((try simp only [Exit.inBlock, Exit.then]); refine bodyPost_ret (results_none rfl _ _ _) rfl ?_)
   exact ⟨rfl, by unfold wrV; rw [if_pos ⟨rfl, H.out⟩]; exact HI.out.set1 v, eS HB.out HG.out, KeepBut.set_ (KeepBut.refl _ _ _) _ _⟩
  ·have h0 : (f1 == 0) = false := beq_eq_false_iff_ne.2 h; have H := Aside0.mk h; clear h; go_enter Tryd.func44, Tryd.ntmps44; go_wp2
   first | go_end0 | ((try simp only [Exit.inBlock, Exit.then]); refine bodyPost_ret (results_none rfl _ _ _) rfl ?_)
   exact ⟨rfl, by unfold wrV; rw [if_neg (fun h => H.out h.2)]; exact HI.out, HB.out, KeepBut.refl _ _ _⟩
 | false =>
  go_enter Tryd.func44, Tryd.ntmps44; go_wp2
  first | go_end0 | ((try simp only [Exit.inBlock, Exit.then]); refine bodyPost_ret (results_none rfl _ _ _) rfl ?_)
  exact ⟨rfl, by unfold wrV; rw [if_neg (fun h => by cases h.1)]; exact HI.out, HB.out, KeepBut.refl _ _ _⟩
theorem keep_then {w w1 w2 : World} {g : Nat} (h : KeepBut w w1 g none) (k : KeepBut w1 w2 g none) : KeepBut w w2 g none := KeepBut.trans h k (.inl rfl)
set_option maxHeartbeats 1000000 in
theorem Rdr.key {ok : Nat → Prop} (k g : Nat) (x : ByteArray) (xs : List ByteArray) (f1 : Int) (b : Bool) (w0 w : World) (hI : Rdr ok w g (x :: xs) f1) (hB : Below w0.heap.size w0 w) (hg : w0.heap.size ≤ g) (hk : fnv_Key.f k x = some b) :
  Calls Tryd.prog 35 #[.pointer (some ⟨g, 0, none⟩)] w fun e w' => e = .returned (.string x) ∧ Rdr ok w' g xs (wrV (!b) 4 f1) ∧ Below w0.heap.size w0 w' ∧ KeepBut w w' g none := by
 have HI := Aside0.mk hI; have HB := Aside0.mk hB; have HG := Aside0.mk hg; have HY := Aside0.mk hk; clear hI hB hg hk; go_enter Tryd.func35, Tryd.ntmps35
 go_wp2_with (first | (go_at_call 46; (with_reducible refine (Rdr.next g x xs f1 w0 _ HI.out HB.out HG.out).mono ?_); rintro e w1 ⟨rfl, hI1, hB1, hK1⟩; have HI1 := Aside0.mk hI1; have HB1 := Aside0.mk hB1; have HK1 := Aside0.mk hK1; clear hI1 hB1 hK1) | (go_at_call 47; (with_reducible refine (fnv_Key.calls k x b _ HY.out).mono ?_); rintro e w2 ⟨rfl, ⟨nd, rfl⟩⟩) | (go_at_call 44; (with_reducible refine (Rdr.wrong g xs f1 (!b) 4 w0 _ (HI1.out.drewN _) (eN HB1.out _) HG.out).mono ?_); rintro e w3 ⟨rfl, hI3, hB3, hK3⟩; have HI3 := Aside0.mk hI3; have HB3 := Aside0.mk hB3; have HK3 := Aside0.mk hK3; clear hI3 hB3 hK3))
 go_ret
 exact ⟨rfl, HI3.out, HB3.out, keep_then (keep_then HK1.out (keep_drewN (KeepBut.refl _ _ _) _)) HK3.out⟩
set_option maxHeartbeats 1000000 in
theorem Rdr.signed {ok : Nat → Prop} (k g : Nat) (x : ByteArray) (xs : List ByteArray) (f1 n er : Int) (w0 w : World) (hI : Rdr ok w g (x :: xs) f1) (hB : Below w0.heap.size w0 w) (hg : w0.heap.size ≤ g) (hL : LdS w0) (hs : digits_Signed.f k x = some (n, er)) :
  Calls Tryd.prog 36 #[.pointer (some ⟨g, 0, none⟩)] w fun e w' => e = .returned (.int .i64 n) ∧ Rdr ok w' g xs (wrV (er != 0) 7 f1) ∧ Below w0.heap.size w0 w' ∧ KeepBut w w' g none := by
 have HI := Aside0.mk hI; have HB := Aside0.mk hB; have HG := Aside0.mk hg; have HY := Aside0.mk hs; have HL := Aside0.mk hL; clear hI hB hg hs hL; go_enter Tryd.func36, Tryd.ntmps36
 go_wp2_with (first | (go_at_call 46; (with_reducible refine (Rdr.next g x xs f1 w0 _ HI.out HB.out HG.out).mono ?_); rintro e w1 ⟨rfl, hI1, hB1, hK1⟩; have HI1 := Aside0.mk hI1; have HB1 := Aside0.mk hB1; have HK1 := Aside0.mk hK1; clear hI1 hB1 hK1) | (go_at_call 45; (with_reducible refine (digits_Signed.calls k x n er _ HY.out (HL.out.on HB1.out)).mono ?_); rintro e w2 ⟨rfl, hB2⟩; have HB2 := Aside0.mk hB2; clear hB2) | (go_at_call 44; (with_reducible refine (Rdr.wrong g xs f1 (er != 0) 7 w0 _ (HI1.out.below HB2.out) (below_step HB1.out HB2.out) HG.out).mono ?_); rintro e w3 ⟨rfl, hI3, hB3, hK3⟩; have HI3 := Aside0.mk hI3; have HB3 := Aside0.mk hB3; have HK3 := Aside0.mk hK3; clear hI3 hB3 hK3))
 go_ret
 exact ⟨rfl, HI3.out, HB3.out, keep_then (keep_then HK1.out (KeepBut.of_below HB2.out _ _)) HK3.out⟩
set_option maxHeartbeats 1000000 in
theorem Rdr.number {ok : Nat → Prop} (g : Nat) (x : ByteArray) (xs : List ByteArray) (f1 n er most v : Int) (w0 w : World) (hI : Rdr ok w g (x :: xs) f1) (hB : Below w0.heap.size w0 w) (hg : w0.heap.size ≤ g) (hL : LdS w0) (hs : digits_Parse.f x = some (n, er)) :
  Calls Tryd.prog 37 #[.pointer (some ⟨g, 0, none⟩), .int .u64 most, .int .i64 v] w fun e w' => e = .returned (.int .u64 n) ∧ Rdr ok w' g xs (wrV (er != 0 || decide (most < n)) v f1) ∧ Below w0.heap.size w0 w' ∧ KeepBut w w' g none := by
 have HI := Aside0.mk hI; have HB := Aside0.mk hB; have HG := Aside0.mk hg; have HY := Aside0.mk hs; have HL := Aside0.mk hL; clear hI hB hg hs hL
 by_cases h : er = 0
 ·have h0 : (er != 0) = false := bne_eq_false_iff_eq.2 h; clear h; rw [h0, Bool.false_or]; go_enter Tryd.func37, Tryd.ntmps37
  go_wp2_with (first | (go_at_call 46; (with_reducible refine (Rdr.next g x xs f1 w0 _ HI.out HB.out HG.out).mono ?_); rintro e w1 ⟨rfl, hI1, hB1, hK1⟩; have HI1 := Aside0.mk hI1; have HB1 := Aside0.mk hB1; have HK1 := Aside0.mk hK1; clear hI1 hB1 hK1) | (go_at_call 48; (with_reducible refine (digits_Parse.calls x n er _ HY.out (HL.out.on HB1.out)).mono ?_); rintro e w2 ⟨rfl, hB2⟩; have HB2 := Aside0.mk hB2; clear hB2) | (go_at_call 44; (with_reducible refine (Rdr.wrong g xs f1 (decide (most < n)) v w0 _ (HI1.out.below HB2.out) (below_step HB1.out HB2.out) HG.out).mono ?_); rintro e w3 ⟨rfl, hI3, hB3, hK3⟩; have HI3 := Aside0.mk hI3; have HB3 := Aside0.mk hB3; have HK3 := Aside0.mk hK3; clear hI3 hB3 hK3))
  go_ret
  exact ⟨rfl, HI3.out, HB3.out, keep_then (keep_then HK1.out (KeepBut.of_below HB2.out _ _)) HK3.out⟩
 ·have h0 : (er != 0) = true := bne_iff_ne.2 h; clear h; rw [h0, Bool.true_or]; go_enter Tryd.func37, Tryd.ntmps37
  go_wp2_with (first | (go_at_call 46; (with_reducible refine (Rdr.next g x xs f1 w0 _ HI.out HB.out HG.out).mono ?_); rintro e w1 ⟨rfl, hI1, hB1, hK1⟩; have HI1 := Aside0.mk hI1; have HB1 := Aside0.mk hB1; have HK1 := Aside0.mk hK1; clear hI1 hB1 hK1) | (go_at_call 48; (with_reducible refine (digits_Parse.calls x n er _ HY.out (HL.out.on HB1.out)).mono ?_); rintro e w2 ⟨rfl, hB2⟩; have HB2 := Aside0.mk hB2; clear hB2) | (go_at_call 44; (with_reducible refine (Rdr.wrong g xs f1 true v w0 _ (HI1.out.below HB2.out) (below_step HB1.out HB2.out) HG.out).mono ?_); rintro e w3 ⟨rfl, hI3, hB3, hK3⟩; have HI3 := Aside0.mk hI3; have HB3 := Aside0.mk hB3; have HK3 := Aside0.mk hK3; clear hI3 hB3 hK3))
  go_ret
  exact ⟨rfl, HI3.out, HB3.out, keep_then (keep_then HK1.out (KeepBut.of_below HB2.out _ _)) HK3.out⟩
set_option maxHeartbeats 1000000 in
theorem Rdr.done0 {ok : Nat → Prop} (g : Nat) (f0 : List ByteArray) (k : Int) (A : Option Addr) (n c : Nat) (fl ex : Int) (v : ByteArray) (cas del : Int) (q : Bool) (w : World) (hI : Rdr ok w g f0 0) :
  Calls Tryd.prog 38 #[.pointer (some ⟨g, 0, none⟩), .agg #[.int .i64 k, .slice A n c, .int .u32 fl, .int .i64 ex, .string v, .int .u64 cas, .int .u64 del, .bool q]] w fun e w' => e = .returned (.agg #[.int .i64 1, .int .i64 k, .slice A n c, .int .u32 fl, .int .i64 ex, .string v, .int .u64 cas, .int .u64 del, .bool q, .int .i64 0, .int .i64 0]) ∧ Below w.heap.size w w' := by
 obtain ⟨A', c', hb, hc, hF, hok⟩ := hI; have hcz1 : w.cell? ⟨g, 1, none⟩ = some (.int .i64 0) := (blk_cell hb 1).trans rfl; have hfz1 : w.frozen? ⟨g, 1, none⟩ = false := blk_frozen hb 1; have hlt : g < w.heap.size := blk_lt hb
 clear hF hb hc hok; go_enter Tryd.func38, Tryd.ntmps38; go_wp2; exact bodyPost_ret (v := .agg #[.int .i64 1, .int .i64 k, .slice A n c, .int .u32 fl, .int .i64 ex, .string v, .int .u64 cas, .int .u64 del, .bool q, .int .i64 0, .int .i64 0]) (by simp [results, Tryd.results38, go_sem]) rfl ⟨rfl, ((Below.refl _ _).alloc (Nat.le_refl _) _).alloc (by simp) _⟩
set_option maxHeartbeats 1000000 in
theorem Rdr.done1 {ok : Nat → Prop} (g : Nat) (f0 : List ByteArray) (f1 : Int) (k : Int) (A : Option Addr) (n c : Nat) (fl ex : Int) (v : ByteArray) (cas del : Int) (q : Bool) (w : World) (hI : Rdr ok w g f0 f1) (hz : (f1 != 0) = true) :
  Calls Tryd.prog 38 #[.pointer (some ⟨g, 0, none⟩), .agg #[.int .i64 k, .slice A n c, .int .u32 fl, .int .i64 ex, .string v, .int .u64 cas, .int .u64 del, .bool q]] w fun e w' => e = .returned (.agg #[.int .i64 f1, .int .i64 0, .slice none 0 0, .int .u32 0, .int .i64 0, .string ⟨#[]⟩, .int .u64 0, .int .u64 0, .bool false, .int .i64 0, .int .i64 0]) ∧ Below w.heap.size w w' := by
 obtain ⟨A', c', hb, hc, hF, hok⟩ := hI; have hcz1 : w.cell? ⟨g, 1, none⟩ = some (.int .i64 f1) := (blk_cell hb 1).trans rfl; have hfz1 : w.frozen? ⟨g, 1, none⟩ = false := blk_frozen hb 1; have hlt : g < w.heap.size := blk_lt hb
 clear hF hb hc hok; go_enter Tryd.func38, Tryd.ntmps38; go_wp2; exact bodyPost_ret (v := .agg #[.int .i64 f1, .int .i64 0, .slice none 0 0, .int .u32 0, .int .i64 0, .string ⟨#[]⟩, .int .u64 0, .int .u64 0, .bool false, .int .i64 0, .int .i64 0]) (by simp [results, Tryd.results38, go_sem]) rfl ⟨rfl, ((Below.refl _ _).alloc (Nat.le_refl _) _).alloc (by simp) _⟩
/-! ### line.reads -/
def kvV (k : Nat) : List ByteArray → Int → Option Int
 | [], vd => some vd
 | x :: xs, vd => (fnv_Key.f k x).bind fun b => kvV k xs (wrV (!b) 4 vd)
def zP (vd : Int) : Int × Int × List ByteArray × Int × Int × ByteArray × Int × Int × Bool × Int × Int := (vd, 0, [], 0, 0, ⟨#[]⟩, 0, 0, false, 0, 0)
def dnV (vd kd : Int) (keys : List ByteArray) (ex del : Int) (q : Bool) : Int × Int × List ByteArray × Int × Int × ByteArray × Int × Int × Bool × Int × Int := if vd = 0 then (1, kd, keys, 0, ex, ⟨#[]⟩, 0, del, q, 0, 0) else zP vd
def line_reads.f (k : Nat) (kd : Int) (ws : List ByteArray) : Option (Int × Int × List ByteArray × Int × Int × ByteArray × Int × Int × Bool × Int × Int) :=
 if ws.length < 1000 then
  (if kd = 3 ∨ kd = 4 then
   (match ws with
    | [] => some (zP 3)
    | [_] => some (zP 3)
    | y :: x :: xs => (kvV k (x :: xs) (wrV (decide (8 < xs.length + 1)) 4 0)).bind fun vd => (digits_Signed.f k y).bind fun r => some (dnV (wrV (r.2 != 0) 7 vd) kd (x :: xs) r.1 0 false))
  else
   (match ws with
    | [] => some (zP 3)
    | x :: xs => (kvV k (x :: xs) (wrV (decide (8 < xs.length + 1)) 4 0)).bind fun vd => some (dnV vd kd (x :: xs) 0 0 false)))
 else none
def ParsedPost (w : World) (r : Int × Int × List ByteArray × Int × Int × ByteArray × Int × Int × Bool × Int × Int) (e : Ending) (w' : World) : Prop :=
 ∃ v2_ : Value, e = .returned (.agg #[.int .i64 r.1, .int .i64 r.2.1, v2_, .int .u32 r.2.2.2.1, .int .i64 r.2.2.2.2.1, .string r.2.2.2.2.2.1, .int .u64 r.2.2.2.2.2.2.1, .int .u64 r.2.2.2.2.2.2.2.1, .bool r.2.2.2.2.2.2.2.2.1, .int .i64 r.2.2.2.2.2.2.2.2.2.1, .int .i64 r.2.2.2.2.2.2.2.2.2.2]) ∧ Kd.R Kd.string 9 w' w.heap.size (fun _ => True) v2_ r.2.2.1 ∧ Below w.heap.size w w'
theorem ParsedPost.mk0 {w w' : World} {vd kd : Int} {keys : List ByteArray} {ex del : Int} {q : Bool} {A : Option Addr} {m c : Nat} (hv : vd = 0) (hm : m = keys.length) (hr : Kd.R Kd.string 9 w' w.heap.size (fun _ => True) (.slice A m c) keys) (hb : Below w.heap.size w w') :
  ParsedPost w (dnV vd kd keys ex del q) (.returned (.agg #[.int .i64 1, .int .i64 kd, .slice A m c, .int .u32 0, .int .i64 ex, .string ⟨#[]⟩, .int .u64 0, .int .u64 del, .bool q, .int .i64 0, .int .i64 0])) w' := by
 unfold dnV; rw [if_pos hv]; exact ⟨_, rfl, hr, hb⟩
theorem ParsedPost.mk1 {w w' : World} {vd kd : Int} {keys : List ByteArray} {ex del : Int} {q : Bool} (hv : ¬ vd = 0) (hb : Below w.heap.size w w') :
  ParsedPost w (dnV vd kd keys ex del q) (.returned (.agg #[.int .i64 vd, .int .i64 0, .slice none 0 0, .int .u32 0, .int .i64 0, .string ⟨#[]⟩, .int .u64 0, .int .u64 0, .bool false, .int .i64 0, .int .i64 0])) w' := by
 unfold dnV; rw [if_neg hv]; exact ⟨_, rfl, Kd.R_nil _ _ _ _ _, hb⟩
theorem info_str : (Tryd.prog.info? 9).map (fun i => (i.zero, i.size, i.bytes)) = some (some (.string ⟨#[]⟩), 1, 16) := by kernel_rfl
theorem cutF (A : Option Addr) (n c m : Nat) (hm : m ≤ n) : ∃ A' : Option Addr, (∀ W : World, (Instr.slice 34 (.slice A n c) (some (.int .i64 (m : Int))) none none).run Tryd.prog W = .ok (.slice A' (n - m) (c - m)) W) ∧
  ∀ (W : World) (ok : Nat → Prop) (xs : List ByteArray), xs.length = n → n ≤ c → Kd.F Kd.string W ok A xs.length xs → Kd.F Kd.string W ok A' (xs.drop m).length (xs.drop m) := by
 obtain ⟨i, hi, hi2⟩ := Option.map_eq_some_iff.1 info_str; simp only [Prod.mk.injEq] at hi2; refine ⟨if c = m then A else A.map (·.add m), fun W => ?_, fun W ok xs hl hc h => by simpa [show Kd.string.sz = 1 from rfl] using Kd.F_cut (m := m) h (by rw [hl]; exact hm) (by rw [hl]; exact hc)⟩
 have hel : Tryd.prog.elem 34 = 9 := by simp [Program.elem, Tryd.underlying34]
 have hu : Tryd.prog.underlying 34 = some (.slice (Tryd.prog.elem 34)) := by rw [hel]; exact Tryd.underlying34
 rw [run_slice_l W 34 A n c hu .i64 (m : Int) (by omega) (by omega), hel]; simp [sizeOf, typeInfo, hi, hi2.2.1, sliced, Result.andThen]
theorem takeF (A : Option Addr) (n c m : Nat) (hm : m ≤ n) (hc : n ≤ c) (W : World) : (Instr.slice 34 (.slice A n c) none (some (.int .i64 (m : Int))) none).run Tryd.prog W = .ok (.slice A m c) W := by
 obtain ⟨i, hi, hi2⟩ := Option.map_eq_some_iff.1 info_str; simp only [Prod.mk.injEq] at hi2; have hel : Tryd.prog.elem 34 = 9 := by simp [Program.elem, Tryd.underlying34]
 have hu : Tryd.prog.underlying 34 = some (.slice (Tryd.prog.elem 34)) := by rw [hel]; exact Tryd.underlying34
 have ha : (A.map fun x => x.add 0) = A := by cases A <;> simp [Addr.add]
 rw [run_slice_h W 34 A n c hu .i64 (m : Int) (by omega) (by omega), hel]; simp [sizeOf, typeInfo, hi, hi2.2.1, sliced, Result.andThen, ha]
theorem blk_keep {w w1 : World} {g b : Nat} {o : Obj} (h : w.heap[b]? = some o) (hk : KeepBut w w1 g none) (hne : b ≠ g) : w1.heap[b]? = some o := (hk.2 b (blk_lt h) hne (by simp)).trans h
set_option maxHeartbeats 3000000 in
set_option maxRecDepth 100000 in
theorem line_reads.other (k : Nat) (kd : Int) (A : Option Addr) (c : Nat) (x0 : ByteArray) (xs0 : List ByteArray) (vd0 vdE : Int) (w : World) (hkd : ¬ (kd = 3 ∨ kd = 4)) (hC : Kd.C Kd.string w A (x0 :: xs0).length (x0 :: xs0)) (hc : (x0 :: xs0).length ≤ c) (hn2 : xs0.length < 1000) (hL : LdS w) (hv0 : wrV (decide ((8 : Int) < ((x0 :: xs0).length : Int))) 4 0 = vd0) (hkv : kvV k (x0 :: xs0) vd0 = some vdE) :
  Calls Tryd.prog 31 #[.int .i64 kd, .slice A (x0 :: xs0).length c] w (ParsedPost w (dnV (vdE) kd (x0 :: xs0) 0 0 false)) := by
 have ht : line_timed.f kd = some false := by
  unfold line_timed.f; rw [if_neg (fun h => hkd (.inl h))]
  congr 1
  exact beq_eq_false_iff_ne.2 (fun h => hkd (.inr h))
 have HT := Aside0.mk ht; have HL := Aside0.mk hL; have HC := Aside0.mk hC; have HCc := Aside0.mk hc; have HV0 := Aside0.mk hv0; have HKV := Aside0.mk hkv; have HWS := Aside0.mk hn2; clear ht hL hv0 hkv hC hn2
 obtain ⟨n, hn3⟩ : ∃ n, n = (x0 :: xs0).length := ⟨_, rfl⟩; have hn : 0 < n := by rw [hn3]; simp
 have HF1 := Aside0.mk (Kd.C_F Kd.heap_string HC.out); rw [← hn3] at hc ⊢; have HN := Aside0.mk hn3; clear hn3
 have HMX := Aside0.mk (Kd.F_max HF1.out); go_enter Tryd.func31, Tryd.ntmps31
 go_wp2_with (first | (go_at_call 43; (with_reducible refine (line_timed.calls kd false _ HT.out).mono ?_); rintro e w2 ⟨rfl, ⟨nd, rfl⟩⟩))
 have hW : ∃ W : World, W = ((w.alloc (.cells #[.int .i64 0, .int .i64 0, .slice none 0 0, .int .u32 0, .int .i64 0, .string ⟨#[]⟩, .int .u64 0, .int .u64 0, .bool false, .int .i64 0, .int .i64 0] 57)).drewN nd).alloc (.cells #[.int .i64 kd, .slice none 0 0, .int .u32 0, .int .i64 0, .string ⟨#[]⟩, .int .u64 0, .int .u64 0, .bool false] 37) := ⟨_, rfl⟩; obtain ⟨W, hW⟩ := hW; have hsz : W.heap.size = w.heap.size + 1 + 1 := by rw [hW]; simp
 have BR := bA (bN (blk_new w (.cells #[.int .i64 0, .int .i64 0, .slice none 0 0, .int .u32 0, .int .i64 0, .string ⟨#[]⟩, .int .u64 0, .int .u64 0, .bool false, .int .i64 0, .int .i64 0] 57)) nd) (.cells #[.int .i64 kd, .slice none 0 0, .int .u32 0, .int .i64 0, .string ⟨#[]⟩, .int .u64 0, .int .u64 0, .bool false] 37); have BC := blk_new ((w.alloc (.cells #[.int .i64 0, .int .i64 0, .slice none 0 0, .int .u32 0, .int .i64 0, .string ⟨#[]⟩, .int .u64 0, .int .u64 0, .bool false, .int .i64 0, .int .i64 0] 57)).drewN nd) (.cells #[.int .i64 kd, .slice none 0 0, .int .u32 0, .int .i64 0, .string ⟨#[]⟩, .int .u64 0, .int .u64 0, .bool false] 37); have HB : Below w.heap.size w W := by rw [hW]; exact eA (eN (eA (Below.refl _ _) _) _) _
 rw [show ((w.alloc (.cells #[.int .i64 0, .int .i64 0, .slice none 0 0, .int .u32 0, .int .i64 0, .string ⟨#[]⟩, .int .u64 0, .int .u64 0, .bool false, .int .i64 0, .int .i64 0] 57)).drewN nd).heap.size = w.heap.size + 1 by simp] at BC; rw [← hW] at BR BC ⊢; obtain ⟨g, hg⟩ : ∃ g, g = w.heap.size + 1 + 1 := ⟨_, rfl⟩
 have HI : Rdr (fun b => b < w.heap.size) (W.alloc (.cells #[.slice A n c, .int .i64 0] 71)) g (x0 :: xs0) 0 := by
  have h := Rdr.new (ok := fun b => b < w.heap.size) (W := W) (A := A) (c := c) (f0 := (x0 :: xs0)) 0 (by exact HCc.out) (Kd.F_below HF1.out HB) (fun b hb => by rw [hsz]; omega); rw [← HN.out, hsz, ← hg] at h; exact h
 rw [← hg]; have HG : w.heap.size + 1 + 1 = g := hg.symm; clear hg hW hsz; replace BR := bA BR (.cells #[.slice A n c, .int .i64 0] 71); replace BC := bA BC (.cells #[.slice A n c, .int .i64 0] 71); replace HB := eA HB (.cells #[.slice A n c, .int .i64 0] 71); generalize (W.alloc (.cells #[.slice A n c, .int .i64 0] 71)) = W1 at BR BC HB HI ⊢; have hlt : w.heap.size < g := by omega
 with_reducible refine (Rdr.wrong g (x0 :: xs0) 0 (decide ((8 : Int) < (n : Int))) 4 w _ HI HB (Nat.le_of_lt hlt)).mono ?_
 rintro e W2 ⟨rfl, hI2, hB2, hK2⟩
 replace BR := Aside0.mk (blk_keep BR hK2 (by omega)); replace BC := Aside0.mk (blk_keep BC hK2 (by omega))
 rw [HN.out, HV0.out] at hI2; replace HI := Aside0.mk hI2; replace HB := Aside0.mk hB2; clear hI2 hB2 hK2; have HG := Aside0.mk HG; have HGlt := Aside0.mk hlt; clear hlt
 go_wp2
 go_loopg [] (x0 :: xs0).length (fun q wr => ∃ (xs ks : List ByteArray) (vd : Int) (kvv : Value), Aside0 (q = xs.length) ∧ Aside0 (ks ++ xs = x0 :: xs0) ∧ Aside0 (kvV k xs vd = some vdE) ∧ Aside0 (Rdr (fun b => b < w.heap.size) wr g xs vd) ∧ Aside0 (wr.heap[w.heap.size]? = some (.cells #[.int .i64 0, .int .i64 0, .slice none 0 0, .int .u32 0, .int .i64 0, .string ⟨#[]⟩, .int .u64 0, .int .u64 0, .bool false, .int .i64 0, .int .i64 0] 57 (0, 0))) ∧ Aside0 (wr.heap[w.heap.size + 1]? = some (.cells #[.int .i64 kd, kvv, .int .u32 0, .int .i64 0, .string ⟨#[]⟩, .int .u64 0, .int .u64 0, .bool false] 37 (0, 0))) ∧ Aside0 (Kd.R Kd.string 9 wr w.heap.size (fun b => b ≠ g) kvv ks) ∧ Aside0 (Below w.heap.size w wr))
 case atStart => exact ⟨x0 :: xs0, [], vd0, _, ⟨rfl⟩, ⟨rfl⟩, HKV, HI, BR, BC, ⟨Kd.R_nil _ _ _ _ _⟩, HB⟩
 case round =>
  clear HI BR BC HB; obtain ⟨xs, ks, vd, kvv, HQ, HXS, HKVs, HI, BR, BC, HO, HB⟩ := hrel; obtain ⟨A', c', hb, hc', hF, hok⟩ := HI.out; have hcz0 : wr.cell? ⟨g, 0, none⟩ = some (.slice A' xs.length c') := (blk_cell hb 0).trans rfl; clear hb hF hok; cases xs with
  | nil =>
   have hl : (([] : List ByteArray).length) = 0 := rfl; rw [hl] at hcz0; have hvE := Option.some.inj HKVs.out; rw [hvE] at HI; have hks : ks = x0 :: xs0 := by have := HXS.out; rwa [List.append_nil] at this
   rw [hks] at HO; clear hvE hks HKVs HXS HKV HV0 HQ; obtain ⟨Ak, ck, rfl⟩ := Kd.R_slice HO.out; obtain ⟨m, hm⟩ : ∃ m, m = (x0 :: xs0).length := ⟨_, rfl⟩; rw [← hm] at BC HO; have HM := Aside0.mk hm; clear hm
   obtain ⟨hcz, hfz⟩ := d8 BC; have hne : w.heap.size + 1 ≠ g := by have := HG.out; omega
   by_cases hvd : vdE = 0
   ·have hvd2 := Aside0.mk hvd; rw [hvd] at HI
    clear hvd
    go_wp2_with (first | (go_at_call 43; (with_reducible refine (line_timed.calls kd false _ HT.out).mono ?_); rintro e w2 ⟨rfl, ⟨nd, rfl⟩⟩) | (go_at_call 38; (with_reducible refine (Rdr.done0 g [] kd Ak m ck 0 0 ⟨#[]⟩ 0 0 false _ (HI.out.drewN _)).mono ?_); rintro e w5 ⟨rfl, hB5⟩; have BR5 := Aside0.mk (blk_below (bN BR.out _) hB5); have HB5 := Aside0.mk (below_step (eN HB.out _) hB5); have HO5 := Aside0.mk (Kd.R_types (Kd.R_below (Kd.R_drewN HO.out _) hB5) BR5.out (by decide)); clear hB5; obtain ⟨hcz5, hfz5⟩ := d11 BR5))
    refine bodyPost_ret (results_cell_row rfl _ _ w.heap.size 57 #[.int .i64 1, .int .i64 kd, .slice Ak m ck, .int .u32 0, .int .i64 0, .string ⟨#[]⟩, .int .u64 0, .int .u64 0, .bool false, .int .i64 0, .int .i64 0] (0, 0) _ rfl (bV BR5.out) Tryd.underlying57 rfl (by kernel_rfl)) rfl ?_
    refine ParsedPost.mk0 hvd2.out HM.out ?_ ?_
    ·refine Kd.R_mono (ok := fun b => b ≠ w.heap.size) ?_ (fun _ _ => trivial); (iterate 11 (refine Kd.R_far (p := ⟨w.heap.size, _, none⟩) ?_ (fun _ hk => hk) _)); exact Kd.R_mono HO5.out (fun b hb => hb.2)
    ·(iterate 11 (refine eS ?_ (Nat.le_refl _))); exact HB5.out
   ·have hvd2 := Aside0.mk hvd; clear hvd
    go_wp2_with (first | (go_at_call 43; (with_reducible refine (line_timed.calls kd false _ HT.out).mono ?_); rintro e w2 ⟨rfl, ⟨nd, rfl⟩⟩) | (go_at_call 38; (with_reducible refine (Rdr.done1 g [] (vdE) kd Ak m ck 0 0 ⟨#[]⟩ 0 0 false _ (HI.out.drewN _) (bne_iff_ne.2 hvd2.out)).mono ?_); rintro e w5 ⟨rfl, hB5⟩; have BR5 := Aside0.mk (blk_below (bN BR.out _) hB5); have HB5 := Aside0.mk (below_step (eN HB.out _) hB5); have HO5 := Aside0.mk (Kd.R_types (Kd.R_below (Kd.R_drewN HO.out _) hB5) BR5.out (by decide)); clear hB5; obtain ⟨hcz5, hfz5⟩ := d11 BR5))
    refine bodyPost_ret (results_cell_row rfl _ _ w.heap.size 57 #[.int .i64 (vdE), .int .i64 0, .slice none 0 0, .int .u32 0, .int .i64 0, .string ⟨#[]⟩, .int .u64 0, .int .u64 0, .bool false, .int .i64 0, .int .i64 0] (0, 0) _ rfl (bV BR5.out) Tryd.underlying57 rfl (by kernel_rfl)) rfl ?_
    refine ParsedPost.mk1 hvd2.out ?_
    ·(iterate 11 (refine eS ?_ (Nat.le_refl _))); exact HB5.out
  | cons x xs =>
   obtain ⟨b, hb, HK2⟩ := Option.bind_eq_some_iff.mp HKVs.out; have HY := Aside0.mk hb; have HK2 := Aside0.mk HK2; clear hb
   obtain ⟨m, hm⟩ : ∃ m, m = (x :: xs).length := ⟨_, rfl⟩; rw [← hm] at hcz0; have hm0 : 0 < m := by rw [hm]; simp
   have HM := Aside0.mk hm; clear hm
   have hx1 : wr.cell? ⟨w.heap.size + 1, 1, none⟩ = some kvv := (blk_cell BC.out 1).trans rfl; have hne : w.heap.size + 1 ≠ g := by have := HG.out; omega
   go_wp2; refine start_ (n := 8) (S := fun w' => w'.cell? ⟨w.heap.size + 1, 1, none⟩ = some kvv) (ds := [7]) #[false, false, false, false, false, false, false, false] (by kernel_rfl) rfl rfl hx1 (fun hHeld => ?_)
   refine pure_ (i := 0) (N := some 36) (v := .pointer (some ⟨w.heap.size + 1, 1, none⟩)) (a' := ?_) #[true, false, false, false, false, false, false, false] rfl rfl (by kernel_rfl) (fun _ _ _ h => h) (Or.inl ⟨by rfl, ?_⟩) ?_ ?_
   ·intro w'; first | (go_simp; done) | (go_simp; with_reducible rfl)
   rotate_left
   ·simp only [Act.put, sA, sB, sC, i64_w, i32_w]; rfl
   refine take_ (i := 1) (N := some 37) (v := kvv) (a' := ?_) #[true, true, false, false, false, false, false, false] rfl rfl (by kernel_rfl) (fun _ _ _ h => h) (Or.inl ⟨by rfl, ?_⟩) hHeld ?_ ?_
   ·intro w' hHw; (try obtain ⟨hHw, hHw1⟩ := hHw); first | (go_simp; done) | (go_simp; with_reducible rfl)
   rotate_left
   ·simp only [Act.put, sA, sB, sC, i64_w, i32_w]; rfl
   refine pure_ (i := 2) (N := some 38) (v := .pointer (some ⟨g, 0, none⟩)) (a' := ?_) #[true, true, true, false, false, false, false, false] rfl rfl (by kernel_rfl) (fun _ _ _ h => h) (Or.inl ⟨by rfl, ?_⟩) ?_ ?_
   ·intro w'; first | (go_simp; done) | (go_simp; with_reducible rfl)
   rotate_left
   ·simp only [Act.put, sA, sB, sC, i64_w, i32_w]; rfl
   refine one_ (i := 3) (N := some 39) #[true, true, true, true, false, false, false, false] rfl rfl (by kernel_rfl) (by decide) (fun K hK => ?_)
   refine goes_ Tryd.func35 (by kernel_rfl) rfl #[.pointer (some ⟨g, 0, none⟩)] (by rfl) rfl rfl (by (try simp only [List.map_toArray, List.map_cons, List.map_nil]); first | done | rfl) ?_
   refine (Rdr.key (ok := fun b => b < w.heap.size) k g x xs vd b w _ HI.out.drew (eD HB.out) (Nat.le_of_lt HGlt.out) HY.out).mono ?_
   rintro e w5 ⟨rfl, hI5, hB5, hK5⟩; have BC5 := Aside0.mk (blk_keep (bD BC.out) hK5 hne); have HI5 := Aside0.mk hI5; have HB5 := Aside0.mk hB5; have BR5 := Aside0.mk (blk_keep (bD BR.out) hK5 (Nat.ne_of_lt HGlt.out)); have HO5 := Aside0.mk (Kd.R_keep (Kd.R_drew HO.out) hK5 (fun _ h => h)); clear hI5 hB5 hK5
   refine ⟨_, rfl, ?_⟩
   refine hK.out _ _ ((blk_cell BC5.out 1).trans rfl) (fun hHeld => ?_)
   clear hK K; refine norm_ (a' := ?_) ?_ ?_
   rotate_left
   ·show Act.put _ (some 39) _ = _; simp only [Act.put, sA, sB, sC, i64_w, i32_w]; rfl
   refine one_ (i := 4) (N := some 40) #[true, true, true, true, true, false, false, false] rfl rfl (by kernel_rfl) (by decide) (fun K hK => ?_)
   refine value_ (w1 := w5.alloc (.cells #[.string x] 9)) (v := .slice (some ⟨w5.heap.size, 0, none⟩) 1 1) (by rfl) rfl ?_ ?_
   ·first | (go_simp; done) | (go_simp; rfl)
   refine hK.out _ _ ((blk_cell (bA BC5.out _) 1).trans rfl) (fun hHeld => ?_)
   clear hK K; refine norm_ (a' := ?_) ?_ ?_
   rotate_left
   ·show Act.put _ (some 40) _ = _; simp only [Act.put, sA, sB, sC, i64_w, i32_w]; rfl
   refine one_ (i := 5) (N := some 41) #[true, true, true, true, true, true, false, false] rfl rfl (by kernel_rfl) (by decide) (fun K hK => ?_)
   refine Kd.R_append_step Kd.string (w0 := w) w.heap.size (by rfl) (.tmp 37) (.tmp 40) 34 9 (.string ⟨#[]⟩) 16 (by rfl) Tryd.underlying34 info_str (by rfl) (by decide) (by decide) kvv ks x [.string x] (fun b => b ≠ g) (fun _ => False) (by rfl) (by rfl) rfl (fun _ h => h.elim) (fun b hb => Nat.ne_of_gt (Nat.lt_of_lt_of_le HI5.out.lt hb)) HO5.out HB5.out (below_size HB5.out) ?_ ?_
   ·have h1_ := congrArg List.length HXS.out; have h2_ := HWS.out; rw [List.length_append, List.length_cons, List.length_cons] at h1_; omega
   intro v6 w6 ho6 hb6 hg6 hat6; obtain ⟨A6, c6, rfl⟩ := Kd.R_slice ho6; have BC6 := Aside0.mk (blk_grown BC5.out hg6 (Kd.R_ne HO5.out BC5.out (by decide))); have BR6 := Aside0.mk (blk_grown BR5.out hg6 (Kd.R_ne HO5.out BR5.out (by decide))); have HI6 := Aside0.mk (HI5.out.grown hg6 (fun he => HO5.out.1 g he.symm rfl) (fun b hb he => by have := Kd.R_base HO5.out b he.symm; omega)); have HO6 := Aside0.mk ho6; have HB6 := Aside0.mk hb6; clear ho6 hb6 hg6 hat6
   refine hK.out _ _ ((blk_cell BC6.out 1).trans rfl) (fun hHeld => ?_)
   clear hK K; refine norm_ (a' := ?_) ?_ ?_
   rotate_left
   ·show Act.put _ (some 41) _ = _; simp only [Act.put, sA, sB, sC, i64_w, i32_w]; rfl
   refine pure_ (i := 6) (N := some 42) (v := .pointer (some ⟨w.heap.size + 1, 1, none⟩)) (a' := ?_) #[true, true, true, true, true, true, true, false] rfl rfl (by kernel_rfl) (fun _ _ _ h => h) (Or.inl ⟨by rfl, ?_⟩) ?_ ?_
   ·intro w'; first | (go_simp; done) | (go_simp; with_reducible rfl)
   rotate_left
   ·simp only [Act.put, sA, sB, sC, i64_w, i32_w]; rfl
   refine last_ (i := 7) (N := none) #[true, true, true, true, true, true, true, true] rfl rfl (by kernel_rfl) (by decide) (fun K hK => ?_)
   have hf6 : w6.frozen? ⟨w.heap.size + 1, 1, none⟩ = false := blk_frozen BC6.out 1; have hc6 : w6.cell? ⟨w.heap.size + 1, 1, none⟩ = some kvv := (blk_cell BC6.out 1).trans rfl; refine skip_ (w1 := w6.setCell ⟨w.heap.size + 1, 1, none⟩ (.slice A6 (ks ++ [x]).length c6)) (by rfl) rfl ?_ ?_
   ·first | (go_simp; done) | (go_simp; rfl)
   refine hK.out _ _ ?_
   clear hK K; refine done_ (by kernel_rfl) ?_
   obtain ⟨q1, hq1⟩ : ∃ q1, gk = q1 + 1 := ⟨xs.length, by rw [HQ.out, List.length_cons]⟩; have HQ1 := Aside0.mk hq1; subst hq1
   go_wp2
   go_roundg q1
   case measure => omega
   case rel => exact ⟨xs, ks ++ [x], wrV (!b) 4 vd, _, ⟨by have := HQ.out; rw [List.length_cons] at this; omega⟩, ⟨by rw [List.append_assoc]; exact HXS.out⟩, HK2, ⟨HI6.out.far (Ne.symm hne) (fun b hb => by show b ≠ w.heap.size + 1; omega) _⟩, ⟨blk_far BR6.out (show w.heap.size ≠ w.heap.size + 1 by omega) _⟩, ⟨by simpa using blk_set BC6.out 1 (.slice A6 (ks ++ [x]).length c6)⟩, ⟨Kd.R_set HO6.out BC6.out (by decide) _ _⟩, ⟨eS HB6.out (by omega)⟩⟩
set_option maxHeartbeats 3000000 in
set_option maxRecDepth 100000 in
theorem line_reads.timed (k : Nat) (kd : Int) (A : Option Addr) (c : Nat) (y0 x0 : ByteArray) (xs0 : List ByteArray) (vd0 vdE exV erV : Int) (w : World) (hkd : (kd = 3 ∨ kd = 4)) (hC : Kd.C Kd.string w A (y0 :: x0 :: xs0).length (y0 :: x0 :: xs0)) (hc : (y0 :: x0 :: xs0).length ≤ c) (hn2 : xs0.length < 1000) (hL : LdS w) (hv0 : wrV (decide ((8 : Int) < ((x0 :: xs0).length : Int))) 4 0 = vd0) (hkv : kvV k (x0 :: xs0) vd0 = some vdE) (hsg : digits_Signed.f k y0 = some (exV, erV)) :
  Calls Tryd.prog 31 #[.int .i64 kd, .slice A (y0 :: x0 :: xs0).length c] w (ParsedPost w (dnV (wrV (erV != 0) 7 vdE) kd (x0 :: xs0) exV 0 false)) := by
 have ht : line_timed.f kd = some true := by
  unfold line_timed.f
  by_cases h3 : kd = 3
  ·rw [if_pos h3]
  ·rw [if_neg h3]
   congr 1
   exact beq_iff_eq.2 (hkd.elim (fun h => absurd h h3) id)
 have HT := Aside0.mk ht; have HL := Aside0.mk hL; have HC := Aside0.mk hC; have HCc := Aside0.mk hc; have HV0 := Aside0.mk hv0; have HKV := Aside0.mk hkv; have HWS := Aside0.mk hn2; have HSG := Aside0.mk hsg; clear ht hL hv0 hkv hC hn2 hsg
 obtain ⟨n, hn3⟩ : ∃ n, n = (x0 :: xs0).length := ⟨_, rfl⟩; obtain ⟨A1, hcut0, hcutF⟩ := cutF A (n + 1) c 1 (by omega); have hcut : ∀ W : World, (Instr.slice 34 (.slice A (n + 1) c) (some (.int .i64 1)) none none).run Tryd.prog W = .ok (.slice A1 n (c - 1)) W := fun W => by simpa using hcut0 W
 have hc1 : n + 1 ≤ c := by rw [hn3]; exact hc
 clear hcut0; obtain ⟨htk⟩ : Nonempty (∀ W : World, (Instr.slice 34 (.slice A (n + 1) c) none (some (.int .i64 1)) none).run Tryd.prog W = .ok (.slice A 1 c) W) := ⟨fun W => by simpa using takeF A (n + 1) c 1 (by omega) hc1 W⟩; have HF1 := Aside0.mk (hcutF w (fun b => b < w.heap.size) (y0 :: x0 :: xs0) (by rw [hn3]; rfl) (by rw [hn3]; exact hc) (Kd.C_F Kd.heap_string HC.out)); have HFT := Aside0.mk (show Kd.F Kd.string w (fun b => b < w.heap.size) A [y0].length [y0] from Kd.F_take (m := 1) (Kd.C_F Kd.heap_string HC.out) (by simp)); have hn1 : 0 < n := by rw [hn3]; simp
 have e1 : ((y0 :: x0 :: xs0).length) = n + 1 := by rw [hn3]; rfl
 rw [e1]; have HN := Aside0.mk hn3; clear hn3 e1 hc hcutF
 have hd1 : decide (n + 1 ≤ 1) = false := decide_eq_false (by omega); have hd2 : decide (((n : Int) + 1) ≤ 1) = false := decide_eq_false (by omega); have hd3 : ¬ n = 0 := by omega
 have HMX := Aside0.mk (Kd.F_max HF1.out); go_enter Tryd.func31, Tryd.ntmps31
 go_wp2_with (first | (go_at_call 43; (with_reducible refine (line_timed.calls kd true _ HT.out).mono ?_); rintro e w2 ⟨rfl, ⟨nd, rfl⟩⟩))
 have hW : ∃ W : World, W = ((w.alloc (.cells #[.int .i64 0, .int .i64 0, .slice none 0 0, .int .u32 0, .int .i64 0, .string ⟨#[]⟩, .int .u64 0, .int .u64 0, .bool false, .int .i64 0, .int .i64 0] 57)).drewN nd).alloc (.cells #[.int .i64 kd, .slice none 0 0, .int .u32 0, .int .i64 0, .string ⟨#[]⟩, .int .u64 0, .int .u64 0, .bool false] 37) := ⟨_, rfl⟩; obtain ⟨W, hW⟩ := hW; have hsz : W.heap.size = w.heap.size + 1 + 1 := by rw [hW]; simp
 have BR := bA (bN (blk_new w (.cells #[.int .i64 0, .int .i64 0, .slice none 0 0, .int .u32 0, .int .i64 0, .string ⟨#[]⟩, .int .u64 0, .int .u64 0, .bool false, .int .i64 0, .int .i64 0] 57)) nd) (.cells #[.int .i64 kd, .slice none 0 0, .int .u32 0, .int .i64 0, .string ⟨#[]⟩, .int .u64 0, .int .u64 0, .bool false] 37); have BC := blk_new ((w.alloc (.cells #[.int .i64 0, .int .i64 0, .slice none 0 0, .int .u32 0, .int .i64 0, .string ⟨#[]⟩, .int .u64 0, .int .u64 0, .bool false, .int .i64 0, .int .i64 0] 57)).drewN nd) (.cells #[.int .i64 kd, .slice none 0 0, .int .u32 0, .int .i64 0, .string ⟨#[]⟩, .int .u64 0, .int .u64 0, .bool false] 37); have HB : Below w.heap.size w W := by rw [hW]; exact eA (eN (eA (Below.refl _ _) _) _) _
 rw [show ((w.alloc (.cells #[.int .i64 0, .int .i64 0, .slice none 0 0, .int .u32 0, .int .i64 0, .string ⟨#[]⟩, .int .u64 0, .int .u64 0, .bool false, .int .i64 0, .int .i64 0] 57)).drewN nd).heap.size = w.heap.size + 1 by simp] at BC; rw [← hW] at BR BC ⊢; obtain ⟨g, hg⟩ : ∃ g, g = w.heap.size + 1 + 1 := ⟨_, rfl⟩
 have HI : Rdr (fun b => b < w.heap.size) (W.alloc (.cells #[.slice A1 n (c - 1), .int .i64 0] 71)) g (x0 :: xs0) 0 := by
  have h := Rdr.new (ok := fun b => b < w.heap.size) (W := W) (A := A1) (c := (c - 1)) (f0 := (x0 :: xs0)) 0 (by have := HN.out; omega) (Kd.F_below HF1.out HB) (fun b hb => by rw [hsz]; omega); rw [← HN.out, hsz, ← hg] at h; exact h
 rw [← hg]; have HG : w.heap.size + 1 + 1 = g := hg.symm; clear hg hW hsz; replace BR := bA BR (.cells #[.slice A1 n (c - 1), .int .i64 0] 71); replace BC := bA BC (.cells #[.slice A1 n (c - 1), .int .i64 0] 71); replace HB := eA HB (.cells #[.slice A1 n (c - 1), .int .i64 0] 71); generalize (W.alloc (.cells #[.slice A1 n (c - 1), .int .i64 0] 71)) = W1 at BR BC HB HI ⊢; have hlt : w.heap.size < g := by omega
 with_reducible refine (Rdr.wrong g (x0 :: xs0) 0 (decide ((8 : Int) < (n : Int))) 4 w _ HI HB (Nat.le_of_lt hlt)).mono ?_
 rintro e W2 ⟨rfl, hI2, hB2, hK2⟩
 replace BR := Aside0.mk (blk_keep BR hK2 (by omega)); replace BC := Aside0.mk (blk_keep BC hK2 (by omega))
 rw [HN.out, HV0.out] at hI2; replace HI := Aside0.mk hI2; replace HB := Aside0.mk hB2; clear hI2 hB2 hK2; have HG := Aside0.mk HG; have HGlt := Aside0.mk hlt; clear hlt
 go_wp2
 go_loopg [] (x0 :: xs0).length (fun q wr => ∃ (xs ks : List ByteArray) (vd : Int) (kvv : Value), Aside0 (q = xs.length) ∧ Aside0 (ks ++ xs = x0 :: xs0) ∧ Aside0 (kvV k xs vd = some vdE) ∧ Aside0 (Rdr (fun b => b < w.heap.size) wr g xs vd) ∧ Aside0 (wr.heap[w.heap.size]? = some (.cells #[.int .i64 0, .int .i64 0, .slice none 0 0, .int .u32 0, .int .i64 0, .string ⟨#[]⟩, .int .u64 0, .int .u64 0, .bool false, .int .i64 0, .int .i64 0] 57 (0, 0))) ∧ Aside0 (wr.heap[w.heap.size + 1]? = some (.cells #[.int .i64 kd, kvv, .int .u32 0, .int .i64 0, .string ⟨#[]⟩, .int .u64 0, .int .u64 0, .bool false] 37 (0, 0))) ∧ Aside0 (Kd.R Kd.string 9 wr w.heap.size (fun b => b ≠ g) kvv ks) ∧ Aside0 (Below w.heap.size w wr))
 case atStart => exact ⟨x0 :: xs0, [], vd0, _, ⟨rfl⟩, ⟨rfl⟩, HKV, HI, BR, BC, ⟨Kd.R_nil _ _ _ _ _⟩, HB⟩
 case round =>
  clear HI BR BC HB; obtain ⟨xs, ks, vd, kvv, HQ, HXS, HKVs, HI, BR, BC, HO, HB⟩ := hrel; obtain ⟨A', c', hb, hc', hF, hok⟩ := HI.out; have hcz0 : wr.cell? ⟨g, 0, none⟩ = some (.slice A' xs.length c') := (blk_cell hb 0).trans rfl; clear hb hF hok; cases xs with
  | nil =>
   have hl : (([] : List ByteArray).length) = 0 := rfl; rw [hl] at hcz0; have hvE := Option.some.inj HKVs.out; rw [hvE] at HI; have hks : ks = x0 :: xs0 := by have := HXS.out; rwa [List.append_nil] at this
   rw [hks] at HO; clear hvE hks HKVs HXS HKV HV0 HQ; obtain ⟨Ak, ck, rfl⟩ := Kd.R_slice HO.out; obtain ⟨m, hm⟩ : ∃ m, m = (x0 :: xs0).length := ⟨_, rfl⟩; rw [← hm] at BC HO; have HM := Aside0.mk hm; clear hm
   obtain ⟨hcz, hfz⟩ := d8 BC; have hne : w.heap.size + 1 ≠ g := by have := HG.out; omega
   have hfzg : wr.frozen? ⟨g, 0, none⟩ = false := by obtain ⟨A', c', hb, _⟩ := HI.out; exact blk_frozen hb 0
   go_wp2_with (first | (go_at_call 43; (with_reducible refine (line_timed.calls kd true _ HT.out).mono ?_); rintro e w2 ⟨rfl, ⟨nd, rfl⟩⟩))
   have h1 : ([y0] : List ByteArray).length ≤ c := by have := hc1; simp; omega
   have h3 : ∀ b, (fun b => b < w.heap.size) b → b ≠ g := fun b hb => by have := HGlt.out; have : b < w.heap.size := hb; omega
   have h4 : Rdr (fun b => b < w.heap.size) ((wr.drewN nd).setCell ⟨g, 0, none⟩ (.slice A 1 c)) g [y0] vdE := (HI.out.drewN nd).set0 h1 (Kd.F_drewN (Kd.F_below HFT.out HB.out) nd) h3; have h5 := eS (g := g) (j := 0) (v := .slice A 1 c) (eN HB.out nd) (Nat.le_of_lt HGlt.out)
   with_reducible refine (Rdr.signed (ok := fun b => b < w.heap.size) k g y0 [] vdE exV erV w _ h4 h5 (Nat.le_of_lt HGlt.out) HL.out HSG.out).mono ?_
   clear h1 h3 h4 h5 hcz hfz hcz0 hfzg
   rintro e w6 ⟨rfl, hI6, hB6, hK6⟩; have BR6 := Aside0.mk (blk_keep (blk_far (bN BR.out nd) (Nat.ne_of_lt HGlt.out) _) hK6 (Nat.ne_of_lt HGlt.out)); have BC6 := Aside0.mk (blk_keep (blk_far (bN BC.out nd) hne _) hK6 hne); have HI6 := Aside0.mk hI6; have HB6 := Aside0.mk hB6; have HO6 := Aside0.mk (Kd.R_keep (Kd.R_far (p := ⟨g, 0, none⟩) (Kd.R_drewN HO.out nd) (fun _ h => h) _) hK6 (fun _ h => h)); clear hI6 hB6 hK6; obtain ⟨hcz6, hfz6⟩ := d8 BC6
   by_cases hvd : wrV (erV != 0) 7 vdE = 0
   ·have hvd2 := Aside0.mk hvd; clear hvd
    go_wp2_with (first | fail)
    have hD := HI6.out.far (p := ⟨w.heap.size + 1, 3, none⟩) (Ne.symm hne) (fun b hb => by show b ≠ w.heap.size + 1; omega) (.int .i64 exV); rw [hvd2.out] at hD
    with_reducible refine (Rdr.done0 g [] kd Ak m ck 0 exV ⟨#[]⟩ 0 0 false _ hD).mono ?_
    rintro e w5 ⟨rfl, hB5⟩; have BR5 := Aside0.mk (blk_below (blk_far (p := ⟨w.heap.size + 1, 3, none⟩) BR6.out (show w.heap.size ≠ w.heap.size + 1 by omega) _) hB5); have HB5 := Aside0.mk (below_step (eS (g := w.heap.size + 1) HB6.out (by omega)) hB5); have HO5 := Aside0.mk (Kd.R_types (Kd.R_below (Kd.R_set HO6.out BC6.out (by decide) _ _) hB5) BR5.out (by decide)); clear hB5; obtain ⟨hcz5, hfz5⟩ := d11 BR5
    go_wp2; refine bodyPost_ret (results_cell_row rfl _ _ w.heap.size 57 #[.int .i64 1, .int .i64 kd, .slice Ak m ck, .int .u32 0, .int .i64 exV, .string ⟨#[]⟩, .int .u64 0, .int .u64 0, .bool false, .int .i64 0, .int .i64 0] (0, 0) _ rfl (bV BR5.out) Tryd.underlying57 rfl (by kernel_rfl)) rfl ?_
    refine ParsedPost.mk0 hvd2.out HM.out ?_ ?_
    ·refine Kd.R_mono (ok := fun b => b ≠ w.heap.size) ?_ (fun _ _ => trivial); (iterate 11 (refine Kd.R_far (p := ⟨w.heap.size, _, none⟩) ?_ (fun _ hk => hk) _)); exact Kd.R_mono HO5.out (fun b hb => hb.2)
    ·(iterate 11 (refine eS ?_ (Nat.le_refl _))); exact HB5.out
   ·have hvd2 := Aside0.mk hvd; clear hvd
    go_wp2_with (first | fail)
    have hD := HI6.out.far (p := ⟨w.heap.size + 1, 3, none⟩) (Ne.symm hne) (fun b hb => by show b ≠ w.heap.size + 1; omega) (.int .i64 exV)
    with_reducible refine (Rdr.done1 g [] (wrV (erV != 0) 7 vdE) kd Ak m ck 0 exV ⟨#[]⟩ 0 0 false _ hD (bne_iff_ne.2 hvd2.out)).mono ?_
    rintro e w5 ⟨rfl, hB5⟩; have BR5 := Aside0.mk (blk_below (blk_far (p := ⟨w.heap.size + 1, 3, none⟩) BR6.out (show w.heap.size ≠ w.heap.size + 1 by omega) _) hB5); have HB5 := Aside0.mk (below_step (eS (g := w.heap.size + 1) HB6.out (by omega)) hB5); have HO5 := Aside0.mk (Kd.R_types (Kd.R_below (Kd.R_set HO6.out BC6.out (by decide) _ _) hB5) BR5.out (by decide)); clear hB5; obtain ⟨hcz5, hfz5⟩ := d11 BR5
    go_wp2; refine bodyPost_ret (results_cell_row rfl _ _ w.heap.size 57 #[.int .i64 (wrV (erV != 0) 7 vdE), .int .i64 0, .slice none 0 0, .int .u32 0, .int .i64 0, .string ⟨#[]⟩, .int .u64 0, .int .u64 0, .bool false, .int .i64 0, .int .i64 0] (0, 0) _ rfl (bV BR5.out) Tryd.underlying57 rfl (by kernel_rfl)) rfl ?_
    refine ParsedPost.mk1 hvd2.out ?_
    ·(iterate 11 (refine eS ?_ (Nat.le_refl _))); exact HB5.out
  | cons x xs =>
   obtain ⟨b, hb, HK2⟩ := Option.bind_eq_some_iff.mp HKVs.out; have HY := Aside0.mk hb; have HK2 := Aside0.mk HK2; clear hb
   obtain ⟨m, hm⟩ : ∃ m, m = (x :: xs).length := ⟨_, rfl⟩; rw [← hm] at hcz0; have hm0 : 0 < m := by rw [hm]; simp
   have HM := Aside0.mk hm; clear hm
   have hx1 : wr.cell? ⟨w.heap.size + 1, 1, none⟩ = some kvv := (blk_cell BC.out 1).trans rfl; have hne : w.heap.size + 1 ≠ g := by have := HG.out; omega
   go_wp2; refine start_ (n := 8) (S := fun w' => w'.cell? ⟨w.heap.size + 1, 1, none⟩ = some kvv) (ds := [7]) #[false, false, false, false, false, false, false, false] (by kernel_rfl) rfl rfl hx1 (fun hHeld => ?_)
   refine pure_ (i := 0) (N := some 36) (v := .pointer (some ⟨w.heap.size + 1, 1, none⟩)) (a' := ?_) #[true, false, false, false, false, false, false, false] rfl rfl (by kernel_rfl) (fun _ _ _ h => h) (Or.inl ⟨by rfl, ?_⟩) ?_ ?_
   ·intro w'; first | (go_simp; done) | (go_simp; with_reducible rfl)
   rotate_left
   ·simp only [Act.put, sA, sB, sC, i64_w, i32_w]; rfl
   refine take_ (i := 1) (N := some 37) (v := kvv) (a' := ?_) #[true, true, false, false, false, false, false, false] rfl rfl (by kernel_rfl) (fun _ _ _ h => h) (Or.inl ⟨by rfl, ?_⟩) hHeld ?_ ?_
   ·intro w' hHw; (try obtain ⟨hHw, hHw1⟩ := hHw); first | (go_simp; done) | (go_simp; with_reducible rfl)
   rotate_left
   ·simp only [Act.put, sA, sB, sC, i64_w, i32_w]; rfl
   refine pure_ (i := 2) (N := some 38) (v := .pointer (some ⟨g, 0, none⟩)) (a' := ?_) #[true, true, true, false, false, false, false, false] rfl rfl (by kernel_rfl) (fun _ _ _ h => h) (Or.inl ⟨by rfl, ?_⟩) ?_ ?_
   ·intro w'; first | (go_simp; done) | (go_simp; with_reducible rfl)
   rotate_left
   ·simp only [Act.put, sA, sB, sC, i64_w, i32_w]; rfl
   refine one_ (i := 3) (N := some 39) #[true, true, true, true, false, false, false, false] rfl rfl (by kernel_rfl) (by decide) (fun K hK => ?_)
   refine goes_ Tryd.func35 (by kernel_rfl) rfl #[.pointer (some ⟨g, 0, none⟩)] (by rfl) rfl rfl (by (try simp only [List.map_toArray, List.map_cons, List.map_nil]); first | done | rfl) ?_
   refine (Rdr.key (ok := fun b => b < w.heap.size) k g x xs vd b w _ HI.out.drew (eD HB.out) (Nat.le_of_lt HGlt.out) HY.out).mono ?_
   rintro e w5 ⟨rfl, hI5, hB5, hK5⟩; have BC5 := Aside0.mk (blk_keep (bD BC.out) hK5 hne); have HI5 := Aside0.mk hI5; have HB5 := Aside0.mk hB5; have BR5 := Aside0.mk (blk_keep (bD BR.out) hK5 (Nat.ne_of_lt HGlt.out)); have HO5 := Aside0.mk (Kd.R_keep (Kd.R_drew HO.out) hK5 (fun _ h => h)); clear hI5 hB5 hK5
   refine ⟨_, rfl, ?_⟩
   refine hK.out _ _ ((blk_cell BC5.out 1).trans rfl) (fun hHeld => ?_)
   clear hK K; refine norm_ (a' := ?_) ?_ ?_
   rotate_left
   ·show Act.put _ (some 39) _ = _; simp only [Act.put, sA, sB, sC, i64_w, i32_w]; rfl
   refine one_ (i := 4) (N := some 40) #[true, true, true, true, true, false, false, false] rfl rfl (by kernel_rfl) (by decide) (fun K hK => ?_)
   refine value_ (w1 := w5.alloc (.cells #[.string x] 9)) (v := .slice (some ⟨w5.heap.size, 0, none⟩) 1 1) (by rfl) rfl ?_ ?_
   ·first | (go_simp; done) | (go_simp; rfl)
   refine hK.out _ _ ((blk_cell (bA BC5.out _) 1).trans rfl) (fun hHeld => ?_)
   clear hK K; refine norm_ (a' := ?_) ?_ ?_
   rotate_left
   ·show Act.put _ (some 40) _ = _; simp only [Act.put, sA, sB, sC, i64_w, i32_w]; rfl
   refine one_ (i := 5) (N := some 41) #[true, true, true, true, true, true, false, false] rfl rfl (by kernel_rfl) (by decide) (fun K hK => ?_)
   refine Kd.R_append_step Kd.string (w0 := w) w.heap.size (by rfl) (.tmp 37) (.tmp 40) 34 9 (.string ⟨#[]⟩) 16 (by rfl) Tryd.underlying34 info_str (by rfl) (by decide) (by decide) kvv ks x [.string x] (fun b => b ≠ g) (fun _ => False) (by rfl) (by rfl) rfl (fun _ h => h.elim) (fun b hb => Nat.ne_of_gt (Nat.lt_of_lt_of_le HI5.out.lt hb)) HO5.out HB5.out (below_size HB5.out) ?_ ?_
   ·have h1_ := congrArg List.length HXS.out; have h2_ := HWS.out; rw [List.length_append, List.length_cons, List.length_cons] at h1_; omega
   intro v6 w6 ho6 hb6 hg6 hat6; obtain ⟨A6, c6, rfl⟩ := Kd.R_slice ho6; have BC6 := Aside0.mk (blk_grown BC5.out hg6 (Kd.R_ne HO5.out BC5.out (by decide))); have BR6 := Aside0.mk (blk_grown BR5.out hg6 (Kd.R_ne HO5.out BR5.out (by decide))); have HI6 := Aside0.mk (HI5.out.grown hg6 (fun he => HO5.out.1 g he.symm rfl) (fun b hb he => by have := Kd.R_base HO5.out b he.symm; omega)); have HO6 := Aside0.mk ho6; have HB6 := Aside0.mk hb6; clear ho6 hb6 hg6 hat6
   refine hK.out _ _ ((blk_cell BC6.out 1).trans rfl) (fun hHeld => ?_)
   clear hK K; refine norm_ (a' := ?_) ?_ ?_
   rotate_left
   ·show Act.put _ (some 41) _ = _; simp only [Act.put, sA, sB, sC, i64_w, i32_w]; rfl
   refine pure_ (i := 6) (N := some 42) (v := .pointer (some ⟨w.heap.size + 1, 1, none⟩)) (a' := ?_) #[true, true, true, true, true, true, true, false] rfl rfl (by kernel_rfl) (fun _ _ _ h => h) (Or.inl ⟨by rfl, ?_⟩) ?_ ?_
   ·intro w'; first | (go_simp; done) | (go_simp; with_reducible rfl)
   rotate_left
   ·simp only [Act.put, sA, sB, sC, i64_w, i32_w]; rfl
   refine last_ (i := 7) (N := none) #[true, true, true, true, true, true, true, true] rfl rfl (by kernel_rfl) (by decide) (fun K hK => ?_)
   have hf6 : w6.frozen? ⟨w.heap.size + 1, 1, none⟩ = false := blk_frozen BC6.out 1; have hc6 : w6.cell? ⟨w.heap.size + 1, 1, none⟩ = some kvv := (blk_cell BC6.out 1).trans rfl; refine skip_ (w1 := w6.setCell ⟨w.heap.size + 1, 1, none⟩ (.slice A6 (ks ++ [x]).length c6)) (by rfl) rfl ?_ ?_
   ·first | (go_simp; done) | (go_simp; rfl)
   refine hK.out _ _ ?_
   clear hK K; refine done_ (by kernel_rfl) ?_
   obtain ⟨q1, hq1⟩ : ∃ q1, gk = q1 + 1 := ⟨xs.length, by rw [HQ.out, List.length_cons]⟩; have HQ1 := Aside0.mk hq1; subst hq1
   go_wp2
   go_roundg q1
   case measure => omega
   case rel => exact ⟨xs, ks ++ [x], wrV (!b) 4 vd, _, ⟨by have := HQ.out; rw [List.length_cons] at this; omega⟩, ⟨by rw [List.append_assoc]; exact HXS.out⟩, HK2, ⟨HI6.out.far (Ne.symm hne) (fun b hb => by show b ≠ w.heap.size + 1; omega) _⟩, ⟨blk_far BR6.out (show w.heap.size ≠ w.heap.size + 1 by omega) _⟩, ⟨by simpa using blk_set BC6.out 1 (.slice A6 (ks ++ [x]).length c6)⟩, ⟨Kd.R_set HO6.out BC6.out (by decide) _ _⟩, ⟨eS HB6.out (by omega)⟩⟩

theorem ParsedPost.zp {w w' : World} {vd : Int} (hb : Below w.heap.size w w') : ParsedPost w (zP vd) (.returned (.agg #[.int .i64 vd, .int .i64 0, .slice none 0 0, .int .u32 0, .int .i64 0, .string ⟨#[]⟩, .int .u64 0, .int .u64 0, .bool false, .int .i64 0, .int .i64 0])) w' := ⟨_, rfl, Kd.R_nil _ _ _ _ _, hb⟩
set_option maxHeartbeats 1000000 in
theorem line_reads.short (kd : Int) (A : Option Addr) (n c : Nat) (b : Bool) (w : World) (ht : line_timed.f kd = some b) (hn : b = true ∧ (n = 0 ∨ n = 1) ∨ b = false ∧ n = 0) :
  Calls Tryd.prog 31 #[.int .i64 kd, .slice A n c] w (ParsedPost w (zP 3)) := by
 have HT := Aside0.mk ht; clear ht
 rcases hn with ⟨rfl, rfl | rfl⟩ | ⟨rfl, rfl⟩
 all_goals
  go_enter Tryd.func31, Tryd.ntmps31
  go_wp2_with (first | (go_at_call 43; (with_reducible refine (line_timed.calls kd _ _ HT.out).mono ?_); rintro e w2 ⟨rfl, ⟨nd, rfl⟩⟩))
  refine bodyPost_ret (v := .agg #[.int .i64 3, .int .i64 0, .slice none 0 0, .int .u32 0, .int .i64 0, .string ⟨#[]⟩, .int .u64 0, .int .u64 0, .bool false, .int .i64 0, .int .i64 0]) (by simp [results, Tryd.results31, go_sem]) rfl ?_
  refine ParsedPost.zp ?_
  (iterate 11 (refine eS ?_ (Nat.le_refl _)))
  exact eN (eA (Below.refl _ _) _) _
theorem line_reads.calls (k : Nat) (kd : Int) (A : Option Addr) (c : Nat) (ws : List ByteArray) (r : Int × Int × List ByteArray × Int × Int × ByteArray × Int × Int × Bool × Int × Int) (w : World) (hC : Kd.C Kd.string w A ws.length ws) (hc : ws.length ≤ c) (hL : LdS w) (h : line_reads.f k kd ws = some r) :
  Calls Tryd.prog 31 #[.int .i64 kd, .slice A ws.length c] w (ParsedPost w r) := by
 unfold line_reads.f at h
 split at h
 ·rename_i hn
  have hx : ∀ n : Nat, decide ((8 : Int) < ((n + 1 : Nat) : Int)) = decide (8 < n + 1) := fun n => by rw [decide_eq_decide]; omega
  split at h
  ·rename_i hk
   have ht : line_timed.f kd = some true := by
    unfold line_timed.f
    by_cases h3 : kd = 3
    ·rw [if_pos h3]
    ·rw [if_neg h3]
     congr 1
     exact beq_iff_eq.2 (hk.elim (fun h => absurd h h3) id)
   match ws, hC, hc, hn, h with
   | [], hC, hc, hn, h =>
    obtain rfl := Option.some.inj h; exact line_reads.short kd A 0 c true w ht (.inl ⟨rfl, .inl rfl⟩)
   | [y], hC, hc, hn, h =>
    obtain rfl := Option.some.inj h; exact line_reads.short kd A 1 c true w ht (.inl ⟨rfl, .inr rfl⟩)
   | y :: x :: xs, hC, hc, hn, h =>
    obtain ⟨vd, h1, h2⟩ := Option.bind_eq_some_iff.mp h; obtain ⟨⟨n, er⟩, h3, h4⟩ := Option.bind_eq_some_iff.mp h2; obtain rfl := Option.some.inj h4; exact line_reads.timed k kd A c y x xs _ vd n er w hk hC hc (by simp at hn; omega) hL rfl (by rw [List.length_cons, hx]; exact h1) h3
  ·rename_i hk
   match ws, hC, hc, hn, h with
   | [], hC, hc, hn, h =>
    obtain rfl := Option.some.inj h; refine line_reads.short kd A 0 c false w ?_ (.inr ⟨rfl, rfl⟩)
    unfold line_timed.f; rw [if_neg (fun h => hk (.inl h))]
    congr 1
    exact beq_eq_false_iff_ne.2 (fun h => hk (.inr h))
   | x :: xs, hC, hc, hn, h =>
    obtain ⟨vd, h1, h4⟩ := Option.bind_eq_some_iff.mp h; obtain rfl := Option.some.inj h4; exact line_reads.other k kd A c x xs _ vd w hk hC hc (by simp at hn; omega) hL rfl (by rw [List.length_cons, hx]; exact h1)
 ·cases h
/-! ### line.stores -/
def line_stores.cas (k : Nat) (kd v2 : Int) (rest : List ByteArray) : Option (Int × Int) :=
 if kd = 10 then (match rest with
  | x :: _ => (digits_Parse.f x).bind fun p => some (p.1, wrV (p.2 != 0 || decide ((18446744073709551615 : Int) < p.1)) 4 v2)
  | [] => none) else some (0, v2)
def line_stores.fin (kd : Int) (q : Bool) (a : ByteArray) (size fl ends cas v4 : Int) : Int × Int × List ByteArray × Int × Int × ByteArray × Int × Int × Bool × Int × Int :=
 if v4 = 0 then (if 2000 < size then (8, kd, [a], 0, 0, ⟨#[]⟩, 0, 0, q, 0, if size ≤ 2147483647 then size + 2 else 0)
  else if kd = 8 ∨ kd = 9 then (2, kd, [a], 0, 0, ⟨#[]⟩, cas, 0, q, size, 0) else (2, kd, [a], fl % 4294967296, ends, ⟨#[]⟩, cas, 0, q, size, 0))
 else (v4, 0, [], 0, 0, ⟨#[]⟩, 0, 0, false, 0, if size ≤ 2147483647 then size + 2 else 0)
def line_stores.f (k : Nat) (kd : Int) (q : Bool) (ws : List ByteArray) : Option (Int × Int × List ByteArray × Int × Int × ByteArray × Int × Int × Bool × Int × Int) :=
 match ws with
 | a :: b :: e :: d :: rest => (digits_Signed.f k d).bind fun s => if s.2 = 0 ∧ 0 ≤ s.1 then
   ((fnv_Key.f k a).bind fun kb => (digits_Parse.f b).bind fun p => (line_stores.cas k kd (wrV (p.2 != 0 || decide ((4294967295 : Int) < p.1)) 4 (wrV (!kb) 4 0)) rest).bind fun cv => (digits_Signed.f k e).bind fun x => some (line_stores.fin kd q a s.1 p.1 x.1 cv.1 (wrV (x.2 != 0) 7 cv.2)))
  else some (zP 5)
 | _ => none
theorem litR {W : World} {g base : Nat} {x : ByteArray} (h : W.heap[g]? = some (.cells #[.string x] 9 (0, 0))) (hb : base ≤ g) : Kd.R Kd.string 9 W base (fun k => k = g) (.slice (some ⟨g, 0, none⟩) 1 1) [x] :=
 ⟨fun k hk => by simpa [Value.ownBlock] using hk.symm, [.string x], ⟨rfl, .inr ⟨g, 1, #[.string x], rfl, hb, h, Nat.le_refl _, by decide, rfl, rfl⟩⟩, ⟨rfl, fun j p hj => by
  cases j with
  | zero =>
   obtain rfl : x = p := by simpa using hj
   rfl
  | succ j => simp at hj⟩⟩
theorem Rdr.re {ok : Nat → Prop} {W : World} {g : Nat} {f0 : List ByteArray} {f1 : Int} (x : ByteArray) (h : Rdr ok W g f0 f1) :
  Rdr (fun b => b = W.heap.size) ((W.setCell ⟨g, 0, none⟩ (.slice (some ⟨W.heap.size, 0, none⟩) 1 1)).alloc (.cells #[.string x] 9)) g [x] f1 := by
 obtain ⟨A, c, h1, h2, h3, h4⟩ := h; have hn := blk_new (W.setCell ⟨g, 0, none⟩ (.slice (some ⟨W.heap.size, 0, none⟩) 1 1)) (.cells #[.string x] 9); rw [show (W.setCell ⟨g, 0, none⟩ (.slice (some ⟨W.heap.size, 0, none⟩) 1 1)).heap.size = W.heap.size by simp] at hn; have hb : g < W.heap.size := blk_lt h1
 exact ⟨some ⟨W.heap.size, 0, none⟩, 1, bA (by simpa using blk_set h1 0 (.slice (some ⟨W.heap.size, 0, none⟩) 1 1)) _, Nat.le_refl _, Kd.R_F (litR (base := 0) hn (Nat.zero_le _)), fun b hb' => by have : b = W.heap.size := hb'; omega⟩
set_option maxHeartbeats 3000000 in
set_option maxRecDepth 100000 in
theorem line_stores.go_cas (k : Nat) (kd : Int) (q : Bool) (A : Option Addr) (c n : Nat) (a b e d x : ByteArray) (rest : List ByteArray) (size fl fe ends ee cas ce v1 v2 v3 v4 : Int) (kb : Bool) (w : World) (hkd : kd = 10) (hC : Kd.C Kd.string w A n (a :: b :: e :: d :: x :: rest)) (hc : n ≤ c) (hL : LdS w)
  (hs : digits_Signed.f k d = some (size, 0)) (hs0 : 0 ≤ size) (hk : fnv_Key.f k a = some kb) (hp : digits_Parse.f b = some (fl, fe)) (hcs : digits_Parse.f x = some (cas, ce)) (hx : digits_Signed.f k e = some (ends, ee)) (hv1 : wrV (!kb) 4 0 = v1) (hv2 : wrV (fe != 0 || decide ((4294967295 : Int) < fl)) 4 v1 = v2) (hv3 : wrV (ce != 0 || decide ((18446744073709551615 : Int) < cas)) 4 v2 = v3) (hv4 : wrV (ee != 0) 7 v3 = v4) :
  Calls Tryd.prog 34 #[.agg #[.int .i64 kd, .slice none 0 0, .int .u32 0, .int .i64 0, .string ⟨#[]⟩, .int .u64 0, .int .u64 0, .bool q], .slice A n c] w (ParsedPost w (line_stores.fin kd q a size fl ends cas v4)) := by
 have hn : (a :: b :: e :: d :: x :: rest).length = n := hC.1; have hn4 : n = rest.length + 1 + 1 + 1 + 1 + 1 := hn.symm; obtain ⟨ad, rfl, hcell⟩ := Kd.at_string hC (3 : Int) (by omega) (by rw [hn4]; omega); have hx3 : w.cell? ⟨ad.block, ad.off + 3, none⟩ = some (.string d) := by simpa [Addr.add, rdOf] using hcell
 have h3n : 3 < n := by omega
 have hlt3 : ad.block < w.heap.size := World.block_lt_of_cell? w ⟨ad.block, ad.off + 3, none⟩ hx3
 have hsb : decide (size < 0) = false := decide_eq_false (by omega); have hk10 : (kd == 10) = true := beq_iff_eq.2 hkd; have HS := Aside0.mk hs; have HC := Aside0.mk (Kd.C_F Kd.heap_string hC); have HL := Aside0.mk hL; have HN := Aside0.mk hn; have HK := Aside0.mk hk; have HP := Aside0.mk hp; have HCc := Aside0.mk hc; have HX := Aside0.mk hx; have HV1 := Aside0.mk hv1; have HV2 := Aside0.mk hv2; have HV3 := Aside0.mk hv3; have HV4 := Aside0.mk hv4; have HKD := Aside0.mk hkd; have HCS := Aside0.mk hcs
 clear hcell hs hk hp hn hn4 hC hL hc hx hv1 hv2 hv3 hv4 hkd hcs; go_enter Tryd.func34, Tryd.ntmps34
 go_wp2_with (first | fail)
 have BC0 := bA (blk_new w (.cells #[.int .i64 kd, .slice none 0 0, .int .u32 0, .int .i64 0, .string ⟨#[]⟩, .int .u64 0, .int .u64 0, .bool q] 37)) (.cells #[.int .i64 0, .int .i64 0, .slice none 0 0, .int .u32 0, .int .i64 0, .string ⟨#[]⟩, .int .u64 0, .int .u64 0, .bool false, .int .i64 0, .int .i64 0] 57); have BR0 := blk_new (w.alloc (.cells #[.int .i64 kd, .slice none 0 0, .int .u32 0, .int .i64 0, .string ⟨#[]⟩, .int .u64 0, .int .u64 0, .bool q] 37)) (.cells #[.int .i64 0, .int .i64 0, .slice none 0 0, .int .u32 0, .int .i64 0, .string ⟨#[]⟩, .int .u64 0, .int .u64 0, .bool false, .int .i64 0, .int .i64 0] 57); rw [show (w.alloc (.cells #[.int .i64 kd, .slice none 0 0, .int .u32 0, .int .i64 0, .string ⟨#[]⟩, .int .u64 0, .int .u64 0, .bool q] 37)).heap.size = w.heap.size + 1 by simp] at BR0; have HB0 := eA (eA (Below.refl w.heap.size w) (.cells #[.int .i64 kd, .slice none 0 0, .int .u32 0, .int .i64 0, .string ⟨#[]⟩, .int .u64 0, .int .u64 0, .bool q] 37)) (.cells #[.int .i64 0, .int .i64 0, .slice none 0 0, .int .u32 0, .int .i64 0, .string ⟨#[]⟩, .int .u64 0, .int .u64 0, .bool false, .int .i64 0, .int .i64 0] 57); generalize ((w.alloc (.cells #[.int .i64 kd, .slice none 0 0, .int .u32 0, .int .i64 0, .string ⟨#[]⟩, .int .u64 0, .int .u64 0, .bool q] 37)).alloc (.cells #[.int .i64 0, .int .i64 0, .slice none 0 0, .int .u32 0, .int .i64 0, .string ⟨#[]⟩, .int .u64 0, .int .u64 0, .bool false, .int .i64 0, .int .i64 0] 57)) = W0 at BC0 BR0 HB0 ⊢
 with_reducible refine (digits_Signed.calls k d size 0 _ HS.out (HL.out.on HB0)).mono ?_
 rintro e_ w1 ⟨rfl, hB⟩
 have BC1 := blk_below BC0 hB; have BR1 := blk_below BR0 hB; have HB1 := below_step HB0 hB; clear BC0 BR0 HB0 hB hx3 hlt3
 have hlt1 : w.heap.size + 1 < w1.heap.size := blk_lt BR1
 have HBH := Aside0.mk HB1; have BCH := Aside0.mk BC1; have BRH := Aside0.mk BR1; clear BC1 BR1 HB1
 go_wp2_with (first | fail)
 have HI0 := Rdr.new (ok := fun b => b < w.heap.size) (W := w1) (A := some ad) (c := c) (f0 := a :: b :: e :: d :: x :: rest) 0 (by rw [HN.out]; exact HCc.out) (by rw [HN.out]; exact Kd.F_below HC.out HBH.out) (fun b hb => by have : b < w.heap.size := hb; omega); rw [HN.out] at HI0; obtain ⟨g, hg⟩ : ∃ g, g = w1.heap.size := ⟨_, rfl⟩; rw [← hg] at HI0 hlt1 ⊢; have BC2 := bA BCH.out (.cells #[.slice (some ad) n c, .int .i64 0] 71); have BR2 := bA BRH.out (.cells #[.slice (some ad) n c, .int .i64 0] 71); have HB2 := eA HBH.out (.cells #[.slice (some ad) n c, .int .i64 0] 71); clear BCH BRH HBH hg
 generalize (w1.alloc (.cells #[.slice (some ad) n c, .int .i64 0] 71)) = W2 at BC2 BR2 HB2 HI0 ⊢; have hgl : w.heap.size ≤ g := by omega
 with_reducible refine (Rdr.key (ok := fun b => b < w.heap.size) k g a (b :: e :: d :: x :: rest) 0 kb w _ HI0 HB2 hgl HK.out).mono ?_
 rintro e_ w3 ⟨rfl, hI, hB, hK⟩
 rw [HV1.out] at hI; have BC3 := Aside0.mk (blk_keep BC2 hK (by omega)); have BR3 := Aside0.mk (blk_keep BR2 hK (by omega)); have HB3 := Aside0.mk hB; have HI3 := Aside0.mk hI; clear BC2 BR2 HB2 HI0 hI hB hK
 have HGL := Aside0.mk hgl; have HG1 := Aside0.mk hlt1; clear hgl hlt1
 have hf3 : w3.frozen? ⟨w.heap.size, 1, none⟩ = false := blk_frozen BC3.out 1; have hc3 : w3.cell? ⟨w.heap.size, 1, none⟩ = some (.slice none 0 0) := (blk_cell BC3.out 1).trans rfl; have hlt3 : w.heap.size < w3.heap.size := blk_lt BC3.out
 go_wp2_with (first | fail)
 obtain ⟨ka, hka⟩ : ∃ ka, ka = w3.heap.size := ⟨_, rfl⟩; have hgk : g < w3.heap.size := HI3.out.lt; have hrk : w.heap.size + 1 < w3.heap.size := blk_lt BR3.out
 rw [← hka] at hgk hrk hlt3 ⊢; have BC4 := bA (blk_set BC3.out 1 (.slice (some ⟨ka, 0, none⟩) 1 1)) (.cells #[.string a] 9); have BR4 := bA (blk_far (p := ⟨w.heap.size, 1, none⟩) BR3.out (by show w.heap.size + 1 ≠ w.heap.size; omega) (.slice (some ⟨ka, 0, none⟩) 1 1)) (.cells #[.string a] 9); have BK4 := blk_new (w3.setCell ⟨w.heap.size, 1, none⟩ (.slice (some ⟨ka, 0, none⟩) 1 1)) (.cells #[.string a] 9); rw [show (w3.setCell ⟨w.heap.size, 1, none⟩ (.slice (some ⟨ka, 0, none⟩) 1 1)).heap.size = ka by rw [hka]; simp] at BK4; have HI4 := (Rdr.far (p := ⟨w.heap.size, 1, none⟩) HI3.out (by show g ≠ w.heap.size; have := HG1.out; omega) (fun b hb => by show b ≠ w.heap.size; have : b < w.heap.size := hb; omega) (.slice (some ⟨ka, 0, none⟩) 1 1)).below (eA (Below.refl _ _) (.cells #[.string a] 9)); have HB4 := eA (eS (g := w.heap.size) (j := 1) (v := .slice (some ⟨ka, 0, none⟩) 1 1) HB3.out (Nat.le_refl _)) (.cells #[.string a] 9); rw [show ∀ (p0 p1 p2 p3 p4 p5 p6 p7 u : Value), (#[p0, p1, p2, p3, p4, p5, p6, p7] : Array Value).setIfInBounds 1 u = #[p0, u, p2, p3, p4, p5, p6, p7] from fun _ _ _ _ _ _ _ _ _ => rfl] at BC4; clear hf3 hc3 hlt3 hka; generalize ((w3.setCell ⟨w.heap.size, 1, none⟩ (.slice (some ⟨ka, 0, none⟩) 1 1)).alloc (.cells #[.string a] 9)) = W4 at BC4 BR4 BK4 HI4 HB4 ⊢; clear BC3 BR3 HB3 HI3; have HKA : Aside0 (g ≠ ka ∧ w.heap.size + 1 < ka) := ⟨by omega, hrk⟩; clear hgk hrk
 with_reducible refine (Rdr.number (ok := fun b => b < w.heap.size) g b (e :: d :: x :: rest) v1 fl fe 4294967295 4 w _ HI4 HB4 HGL.out HL.out HP.out).mono ?_
 rintro e_ w5 ⟨rfl, hI, hB, hK⟩
 rw [HV2.out] at hI; have BC5 := Aside0.mk (blk_keep BC4 hK (by have := HG1.out; omega)); have BR5 := Aside0.mk (blk_keep BR4 hK (by have := HG1.out; omega)); have BK5 := Aside0.mk (blk_keep BK4 hK (fun e => HKA.out.1 e.symm)); have HB5 := Aside0.mk hB; have HI5 := Aside0.mk hI; clear hI hB hK BC4 BR4 BK4 HB4 HI4
 go_wp2_with (first | fail)
 with_reducible refine (Rdr.next (ok := fun b => b < w.heap.size) g e (d :: x :: rest) v2 w _ HI5.out HB5.out HGL.out).mono ?_
 rintro e_ w6 ⟨rfl, hI, hB, hK⟩
 have BC6 := Aside0.mk (blk_keep BC5.out hK (by have := HG1.out; omega)); have BR6 := Aside0.mk (blk_keep BR5.out hK (by have := HG1.out; omega)); have BK6 := Aside0.mk (blk_keep BK5.out hK (fun e => HKA.out.1 e.symm)); have HB6 := Aside0.mk hB; have HI6 := Aside0.mk hI; clear hI hB hK BC5 BR5 BK5 HB5 HI5
 go_wp2_with (first | fail)
 with_reducible refine (Rdr.next (ok := fun b => b < w.heap.size) g d (x :: rest) v2 w _ HI6.out HB6.out HGL.out).mono ?_
 rintro e_ w7 ⟨rfl, hI, hB, hK⟩
 have BC7 := Aside0.mk (blk_keep BC6.out hK (by have := HG1.out; omega)); have BR7 := Aside0.mk (blk_keep BR6.out hK (by have := HG1.out; omega)); have BK7 := Aside0.mk (blk_keep BK6.out hK (fun e => HKA.out.1 e.symm)); have HB7 := Aside0.mk hB; have HI7 := Aside0.mk hI; clear hI hB hK BC6 BR6 BK6 HB6 HI6
 have hc7 : w7.cell? ⟨w.heap.size, 0, none⟩ = some (.int .i64 kd) := (blk_cell BC7.out 0).trans rfl
 go_wp2_with (first | fail)
 clear hc7
 with_reducible refine (Rdr.number (ok := fun b => b < w.heap.size) g x rest v2 cas ce 18446744073709551615 4 w _ HI7.out HB7.out HGL.out HL.out HCS.out).mono ?_
 rintro e_ w8 ⟨rfl, hI, hB, hK⟩
 rw [HV3.out] at hI; have BC8 := Aside0.mk (blk_keep BC7.out hK (by have := HG1.out; omega)); have BR8 := Aside0.mk (blk_keep BR7.out hK (by have := HG1.out; omega)); have BK8 := Aside0.mk (blk_keep BK7.out hK (fun e => HKA.out.1 e.symm)); have HB8 := Aside0.mk hB; have HI8 := Aside0.mk hI; clear hI hB hK BC7 BR7 BK7 HB7 HI7
 have hc8 : w8.cell? ⟨w.heap.size, 5, none⟩ = some (.int .u64 0) := (blk_cell BC8.out 5).trans rfl; have hf8 : w8.frozen? ⟨w.heap.size, 5, none⟩ = false := blk_frozen BC8.out 5; obtain ⟨Ag, ng, cg, hcg⟩ : ∃ A' n' c', w8.cell? ⟨g, 0, none⟩ = some (.slice A' n' c') := by obtain ⟨A', c', hb, _⟩ := HI8.out; exact ⟨_, _, _, (blk_cell hb 0).trans rfl⟩
 have hfg : w8.frozen? ⟨g, 0, none⟩ = false := by obtain ⟨A', c', hb, _⟩ := HI8.out; exact blk_frozen hb 0
 have hglt : g < w8.heap.size := HI8.out.lt; have hclt : w.heap.size < w8.heap.size := blk_lt BC8.out
 go_wp2_with (first | fail)
 have HIp := HI8.out.far (p := ⟨w.heap.size, 5, none⟩) (by show g ≠ w.heap.size; have := HG1.out; omega) (fun b hb => by show b ≠ w.heap.size; have : b < w.heap.size := hb; omega) (.int .u64 cas); have BCp := blk_set BC8.out 5 (.int .u64 cas); rw [show ∀ (p0 p1 p2 p3 p4 p5 p6 p7 u : Value), (#[p0, p1, p2, p3, p4, p5, p6, p7] : Array Value).setIfInBounds 5 u = #[p0, p1, p2, p3, p4, u, p6, p7] from fun _ _ _ _ _ _ _ _ _ => rfl] at BCp; have BRp := blk_far (p := ⟨w.heap.size, 5, none⟩) BR8.out (by show w.heap.size + 1 ≠ w.heap.size; omega) (.int .u64 cas); have BKp := blk_far (p := ⟨w.heap.size, 5, none⟩) BK8.out (by show ka ≠ w.heap.size; have := HKA.out; omega) (.int .u64 cas); have HBp := eS (g := w.heap.size) (j := 5) (v := .int .u64 cas) HB8.out (Nat.le_refl _); clear hc8 hf8; have HIq := Rdr.re e HIp; rw [show (w8.setCell ⟨w.heap.size, 5, none⟩ (.int .u64 cas)).heap.size = w8.heap.size by simp] at HIq; have BCq := bA (blk_far (p := ⟨g, 0, none⟩) BCp (by show w.heap.size ≠ g; have := HG1.out; omega) (.slice (some ⟨w8.heap.size, 0, none⟩) 1 1)) (.cells #[.string e] 9); have BRq := bA (blk_far (p := ⟨g, 0, none⟩) BRp (by show w.heap.size + 1 ≠ g; have := HG1.out; omega) (.slice (some ⟨w8.heap.size, 0, none⟩) 1 1)) (.cells #[.string e] 9); have BKq := bA (blk_far (p := ⟨g, 0, none⟩) BKp (by show ka ≠ g; exact fun e_ => HKA.out.1 e_.symm) (.slice (some ⟨w8.heap.size, 0, none⟩) 1 1)) (.cells #[.string e] 9); have HBq := eA (eS (g := g) (j := 0) (v := (.slice (some ⟨w8.heap.size, 0, none⟩) 1 1)) HBp HGL.out) (.cells #[.string e] 9); clear HIp BCp BRp BKp HBp hfg hglt hclt hcg
 with_reducible refine (Rdr.signed (ok := fun b => b = w8.heap.size) k g e [] v3 ends ee w _ HIq HBq HGL.out HL.out HX.out).mono ?_
 rintro e_ w9 ⟨rfl, hI, hB, hK⟩
 rw [HV4.out] at hI; have BC9 := Aside0.mk (blk_keep BCq hK (by have := HG1.out; omega)); have BR9 := Aside0.mk (blk_keep BRq hK (by have := HG1.out; omega)); have BK9 := Aside0.mk (blk_keep BKq hK (fun e_ => HKA.out.1 e_.symm)); have HB9 := Aside0.mk hB
 obtain ⟨Aq, cq, hbq, _⟩ := hI; have hcg1 : w9.cell? ⟨g, 1, none⟩ = some (.int .i64 v4) := (blk_cell hbq 1).trans rfl; have hgl9 : g < w9.heap.size := blk_lt hbq; have hcl9 : w.heap.size < w9.heap.size := blk_lt BC9.out; have hrl9 : w.heap.size + 1 < w9.heap.size := blk_lt BR9.out
 clear BCq BRq BKq HBq HIq hK hB hbq; obtain ⟨hcz, hfz⟩ := d8 BC9; obtain ⟨hcy, hfy⟩ := d11 BR9; clear BC8 BR8 BK8 HB8 HI8; have N1 : Aside0 (w.heap.size + 1 ≠ w.heap.size) := ⟨by omega⟩; have N2 : Aside0 (ka ≠ w.heap.size) := ⟨by have := HKA.out; omega⟩; have N3 : Aside0 (ka ≠ w.heap.size + 1) := ⟨by have := HKA.out; omega⟩; have N4 : Aside0 (w.heap.size ≤ w.heap.size) := ⟨Nat.le_refl _⟩; have N5 : Aside0 (w.heap.size ≤ w.heap.size + 1) := ⟨by omega⟩; have N6 : Aside0 (w.heap.size ≤ ka) := ⟨by have := HKA.out; omega⟩
 by_cases hsw : size ≤ 2147483647
 ·have hswb : decide (size ≤ 2147483647) = true := decide_eq_true hsw
  by_cases hv : v4 = 0
  ·have hvb : (v4 != 0) = false := bne_eq_false_iff_eq.2 hv; have HV := Aside0.mk hv; have HSW : Aside0 (size ≤ 2147483647) := ⟨hsw⟩; clear hv hsw
   by_cases h2k : 2000 < size
   ·have h2b : decide (2000 < size) = true := decide_eq_true h2k; have H2 := Aside0.mk h2k; clear h2k; have HSW2 := HSW.out
    go_wp2
    go_region
    go_wp2; refine bodyPost_ret (results_cell_row rfl _ _ (w.heap.size + 1) 57 #[.int .i64 8, .int .i64 kd, .slice (some ⟨ka, 0, none⟩) 1 1, .int .u32 0, .int .i64 0, .string ⟨#[]⟩, .int .u64 0, .int .u64 0, .bool q, .int .i64 0, .int .i64 (size + 2)] (0, 0) _ rfl (bV BR9.out) Tryd.underlying57 rfl (by kernel_rfl)) rfl ?_
    unfold line_stores.fin; rw [if_pos HV.out, if_pos H2.out, if_pos HSW.out]; exact ⟨_, rfl, Kd.R_mono (litR (bK BK9.out) N6.out) (fun _ _ => trivial), bH HB9.out⟩
   ·have h2b : decide (2000 < size) = false := decide_eq_false h2k; have H2 : Aside0 (¬ 2000 < size) := ⟨h2k⟩; clear h2k; have HSW2 := HSW.out
    by_cases h8 : kd = 8
    ·have h8b : (kd != 8) = false := bne_eq_false_iff_eq.2 h8; have H8 := Aside0.mk h8; clear h8
     go_wp2; refine bodyPost_ret (results_cell_row rfl _ _ (w.heap.size + 1) 57 #[.int .i64 2, .int .i64 kd, .slice (some ⟨ka, 0, none⟩) 1 1, .int .u32 0, .int .i64 0, .string ⟨#[]⟩, .int .u64 cas, .int .u64 0, .bool q, .int .i64 size, .int .i64 0] (0, 0) _ rfl (bV BR9.out) Tryd.underlying57 rfl (by kernel_rfl)) rfl ?_
     unfold line_stores.fin; rw [if_pos HV.out, if_neg (show ¬ 2000 < size by have := H2.out; omega), if_pos (Or.inl H8.out)]; exact ⟨_, rfl, Kd.R_mono (litR (bK BK9.out) N6.out) (fun _ _ => trivial), bH HB9.out⟩
    ·have h8b : (kd != 8) = true := bne_iff_ne.2 h8; have H8 : Aside0 (¬ kd = 8) := ⟨h8⟩; clear h8
     by_cases h9 : kd = 9
     ·have h9b : (kd != 9) = false := bne_eq_false_iff_eq.2 h9; have H9 := Aside0.mk h9; clear h9
      go_wp2; refine bodyPost_ret (results_cell_row rfl _ _ (w.heap.size + 1) 57 #[.int .i64 2, .int .i64 kd, .slice (some ⟨ka, 0, none⟩) 1 1, .int .u32 0, .int .i64 0, .string ⟨#[]⟩, .int .u64 cas, .int .u64 0, .bool q, .int .i64 size, .int .i64 0] (0, 0) _ rfl (bV BR9.out) Tryd.underlying57 rfl (by kernel_rfl)) rfl ?_
      unfold line_stores.fin; rw [if_pos HV.out, if_neg (show ¬ 2000 < size by have := H2.out; omega), if_pos (Or.inr H9.out)]; exact ⟨_, rfl, Kd.R_mono (litR (bK BK9.out) N6.out) (fun _ _ => trivial), bH HB9.out⟩
     ·have h9b : (kd != 9) = true := bne_iff_ne.2 h9; have H9 : Aside0 (¬ kd = 9) := ⟨h9⟩; clear h9
      go_wp2; refine bodyPost_ret (results_cell_row rfl _ _ (w.heap.size + 1) 57 #[.int .i64 2, .int .i64 kd, .slice (some ⟨ka, 0, none⟩) 1 1, .int .u32 (fl % 4294967296), .int .i64 ends, .string ⟨#[]⟩, .int .u64 cas, .int .u64 0, .bool q, .int .i64 size, .int .i64 0] (0, 0) _ rfl (bV BR9.out) Tryd.underlying57 rfl (by kernel_rfl)) rfl ?_
      unfold line_stores.fin; rw [if_pos HV.out, if_neg (show ¬ 2000 < size by have := H2.out; omega), if_neg (fun h => h.elim H8.out H9.out)]; exact ⟨_, rfl, Kd.R_mono (litR (bK BK9.out) N6.out) (fun _ _ => trivial), bH HB9.out⟩
  ·have hvb : (v4 != 0) = true := bne_iff_ne.2 hv; have HV : Aside0 (¬ v4 = 0) := ⟨hv⟩; have HSW : Aside0 (size ≤ 2147483647) := ⟨hsw⟩; clear hv
   go_wp2; refine bodyPost_ret (results_cell_row rfl _ _ (w.heap.size + 1) 57 #[.int .i64 v4, .int .i64 0, .slice none 0 0, .int .u32 0, .int .i64 0, .string ⟨#[]⟩, .int .u64 0, .int .u64 0, .bool false, .int .i64 0, .int .i64 (size + 2)] (0, 0) _ rfl (bV BR9.out) Tryd.underlying57 rfl (by kernel_rfl)) rfl ?_
   unfold line_stores.fin; rw [if_neg HV.out, if_pos HSW.out]; exact ⟨_, rfl, Kd.R_nil _ _ _ _ _, bH HB9.out⟩
 ·have hswb : decide (size ≤ 2147483647) = false := decide_eq_false hsw
  by_cases hv : v4 = 0
  ·have hvb : (v4 != 0) = false := bne_eq_false_iff_eq.2 hv; have HV := Aside0.mk hv; have HSW : Aside0 (¬ size ≤ 2147483647) := ⟨hsw⟩; clear hv hsw
   have h2b : decide (2000 < size) = true := decide_eq_true (by have := HSW.out; omega); have H2 : Aside0 (2000 < size) := ⟨by have := HSW.out; omega⟩; go_wp2
   go_region
   go_wp2; refine bodyPost_ret (results_cell_row rfl _ _ (w.heap.size + 1) 57 #[.int .i64 8, .int .i64 kd, .slice (some ⟨ka, 0, none⟩) 1 1, .int .u32 0, .int .i64 0, .string ⟨#[]⟩, .int .u64 0, .int .u64 0, .bool q, .int .i64 0, .int .i64 0] (0, 0) _ rfl (bV BR9.out) Tryd.underlying57 rfl (by kernel_rfl)) rfl ?_
   unfold line_stores.fin; rw [if_pos HV.out, if_pos H2.out, if_neg (show ¬ size ≤ 2147483647 by have := HSW.out; omega)]; exact ⟨_, rfl, Kd.R_mono (litR (bK BK9.out) N6.out) (fun _ _ => trivial), bH HB9.out⟩
  ·have hvb : (v4 != 0) = true := bne_iff_ne.2 hv; have HV : Aside0 (¬ v4 = 0) := ⟨hv⟩; have HSW : Aside0 (¬ size ≤ 2147483647) := ⟨hsw⟩; clear hv hsw
   go_wp2; refine bodyPost_ret (results_cell_row rfl _ _ (w.heap.size + 1) 57 #[.int .i64 v4, .int .i64 0, .slice none 0 0, .int .u32 0, .int .i64 0, .string ⟨#[]⟩, .int .u64 0, .int .u64 0, .bool false, .int .i64 0, .int .i64 0] (0, 0) _ rfl (bV BR9.out) Tryd.underlying57 rfl (by kernel_rfl)) rfl ?_
   unfold line_stores.fin; rw [if_neg HV.out, if_neg (show ¬ size ≤ 2147483647 by have := HSW.out; omega)]; exact ⟨_, rfl, Kd.R_nil _ _ _ _ _, bH HB9.out⟩
set_option maxHeartbeats 3000000 in
set_option maxRecDepth 100000 in
theorem line_stores.go_plain (k : Nat) (kd : Int) (q : Bool) (A : Option Addr) (c n : Nat) (a b e d : ByteArray) (rest : List ByteArray) (size fl fe ends ee v1 v2 v3 v4 : Int) (kb : Bool) (w : World) (hkd : ¬ kd = 10) (hC : Kd.C Kd.string w A n (a :: b :: e :: d :: rest)) (hc : n ≤ c) (hL : LdS w)
  (hs : digits_Signed.f k d = some (size, 0)) (hs0 : 0 ≤ size) (hk : fnv_Key.f k a = some kb) (hp : digits_Parse.f b = some (fl, fe)) (hx : digits_Signed.f k e = some (ends, ee)) (hv1 : wrV (!kb) 4 0 = v1) (hv2 : wrV (fe != 0 || decide ((4294967295 : Int) < fl)) 4 v1 = v2) (hv3 : v2 = v3) (hv4 : wrV (ee != 0) 7 v3 = v4) :
  Calls Tryd.prog 34 #[.agg #[.int .i64 kd, .slice none 0 0, .int .u32 0, .int .i64 0, .string ⟨#[]⟩, .int .u64 0, .int .u64 0, .bool q], .slice A n c] w (ParsedPost w (line_stores.fin kd q a size fl ends 0 v4)) := by
 have hn : (a :: b :: e :: d :: rest).length = n := hC.1; have hn4 : n = rest.length + 1 + 1 + 1 + 1 := hn.symm; obtain ⟨ad, rfl, hcell⟩ := Kd.at_string hC (3 : Int) (by omega) (by rw [hn4]; omega); have hx3 : w.cell? ⟨ad.block, ad.off + 3, none⟩ = some (.string d) := by simpa [Addr.add, rdOf] using hcell
 have h3n : 3 < n := by omega
 have hlt3 : ad.block < w.heap.size := World.block_lt_of_cell? w ⟨ad.block, ad.off + 3, none⟩ hx3
 have hsb : decide (size < 0) = false := decide_eq_false (by omega); have hk10 : (kd == 10) = false := beq_eq_false_iff_ne.2 hkd; have HS := Aside0.mk hs; have HC := Aside0.mk (Kd.C_F Kd.heap_string hC); have HL := Aside0.mk hL; have HN := Aside0.mk hn; have HK := Aside0.mk hk; have HP := Aside0.mk hp; have HCc := Aside0.mk hc; have HX := Aside0.mk hx; have HV1 := Aside0.mk hv1; have HV2 := Aside0.mk hv2; have HV3 := Aside0.mk hv3; have HV4 := Aside0.mk hv4; have HKD := Aside0.mk hkd
 clear hcell hs hk hp hn hn4 hC hL hc hx hv1 hv2 hv3 hv4 hkd; go_enter Tryd.func34, Tryd.ntmps34
 go_wp2_with (first | fail)
 have BC0 := bA (blk_new w (.cells #[.int .i64 kd, .slice none 0 0, .int .u32 0, .int .i64 0, .string ⟨#[]⟩, .int .u64 0, .int .u64 0, .bool q] 37)) (.cells #[.int .i64 0, .int .i64 0, .slice none 0 0, .int .u32 0, .int .i64 0, .string ⟨#[]⟩, .int .u64 0, .int .u64 0, .bool false, .int .i64 0, .int .i64 0] 57); have BR0 := blk_new (w.alloc (.cells #[.int .i64 kd, .slice none 0 0, .int .u32 0, .int .i64 0, .string ⟨#[]⟩, .int .u64 0, .int .u64 0, .bool q] 37)) (.cells #[.int .i64 0, .int .i64 0, .slice none 0 0, .int .u32 0, .int .i64 0, .string ⟨#[]⟩, .int .u64 0, .int .u64 0, .bool false, .int .i64 0, .int .i64 0] 57); rw [show (w.alloc (.cells #[.int .i64 kd, .slice none 0 0, .int .u32 0, .int .i64 0, .string ⟨#[]⟩, .int .u64 0, .int .u64 0, .bool q] 37)).heap.size = w.heap.size + 1 by simp] at BR0; have HB0 := eA (eA (Below.refl w.heap.size w) (.cells #[.int .i64 kd, .slice none 0 0, .int .u32 0, .int .i64 0, .string ⟨#[]⟩, .int .u64 0, .int .u64 0, .bool q] 37)) (.cells #[.int .i64 0, .int .i64 0, .slice none 0 0, .int .u32 0, .int .i64 0, .string ⟨#[]⟩, .int .u64 0, .int .u64 0, .bool false, .int .i64 0, .int .i64 0] 57); generalize ((w.alloc (.cells #[.int .i64 kd, .slice none 0 0, .int .u32 0, .int .i64 0, .string ⟨#[]⟩, .int .u64 0, .int .u64 0, .bool q] 37)).alloc (.cells #[.int .i64 0, .int .i64 0, .slice none 0 0, .int .u32 0, .int .i64 0, .string ⟨#[]⟩, .int .u64 0, .int .u64 0, .bool false, .int .i64 0, .int .i64 0] 57)) = W0 at BC0 BR0 HB0 ⊢
 with_reducible refine (digits_Signed.calls k d size 0 _ HS.out (HL.out.on HB0)).mono ?_
 rintro e_ w1 ⟨rfl, hB⟩
 have BC1 := blk_below BC0 hB; have BR1 := blk_below BR0 hB; have HB1 := below_step HB0 hB; clear BC0 BR0 HB0 hB hx3 hlt3
 have hlt1 : w.heap.size + 1 < w1.heap.size := blk_lt BR1
 have HBH := Aside0.mk HB1; have BCH := Aside0.mk BC1; have BRH := Aside0.mk BR1; clear BC1 BR1 HB1
 go_wp2_with (first | fail)
 have HI0 := Rdr.new (ok := fun b => b < w.heap.size) (W := w1) (A := some ad) (c := c) (f0 := a :: b :: e :: d :: rest) 0 (by rw [HN.out]; exact HCc.out) (by rw [HN.out]; exact Kd.F_below HC.out HBH.out) (fun b hb => by have : b < w.heap.size := hb; omega); rw [HN.out] at HI0; obtain ⟨g, hg⟩ : ∃ g, g = w1.heap.size := ⟨_, rfl⟩; rw [← hg] at HI0 hlt1 ⊢; have BC2 := bA BCH.out (.cells #[.slice (some ad) n c, .int .i64 0] 71); have BR2 := bA BRH.out (.cells #[.slice (some ad) n c, .int .i64 0] 71); have HB2 := eA HBH.out (.cells #[.slice (some ad) n c, .int .i64 0] 71); clear BCH BRH HBH hg
 generalize (w1.alloc (.cells #[.slice (some ad) n c, .int .i64 0] 71)) = W2 at BC2 BR2 HB2 HI0 ⊢; have hgl : w.heap.size ≤ g := by omega
 with_reducible refine (Rdr.key (ok := fun b => b < w.heap.size) k g a (b :: e :: d :: rest) 0 kb w _ HI0 HB2 hgl HK.out).mono ?_
 rintro e_ w3 ⟨rfl, hI, hB, hK⟩
 rw [HV1.out] at hI; have BC3 := Aside0.mk (blk_keep BC2 hK (by omega)); have BR3 := Aside0.mk (blk_keep BR2 hK (by omega)); have HB3 := Aside0.mk hB; have HI3 := Aside0.mk hI; clear BC2 BR2 HB2 HI0 hI hB hK
 have HGL := Aside0.mk hgl; have HG1 := Aside0.mk hlt1; clear hgl hlt1
 have hf3 : w3.frozen? ⟨w.heap.size, 1, none⟩ = false := blk_frozen BC3.out 1; have hc3 : w3.cell? ⟨w.heap.size, 1, none⟩ = some (.slice none 0 0) := (blk_cell BC3.out 1).trans rfl; have hlt3 : w.heap.size < w3.heap.size := blk_lt BC3.out
 go_wp2_with (first | fail)
 obtain ⟨ka, hka⟩ : ∃ ka, ka = w3.heap.size := ⟨_, rfl⟩; have hgk : g < w3.heap.size := HI3.out.lt; have hrk : w.heap.size + 1 < w3.heap.size := blk_lt BR3.out
 rw [← hka] at hgk hrk hlt3 ⊢; have BC4 := bA (blk_set BC3.out 1 (.slice (some ⟨ka, 0, none⟩) 1 1)) (.cells #[.string a] 9); have BR4 := bA (blk_far (p := ⟨w.heap.size, 1, none⟩) BR3.out (by show w.heap.size + 1 ≠ w.heap.size; omega) (.slice (some ⟨ka, 0, none⟩) 1 1)) (.cells #[.string a] 9); have BK4 := blk_new (w3.setCell ⟨w.heap.size, 1, none⟩ (.slice (some ⟨ka, 0, none⟩) 1 1)) (.cells #[.string a] 9); rw [show (w3.setCell ⟨w.heap.size, 1, none⟩ (.slice (some ⟨ka, 0, none⟩) 1 1)).heap.size = ka by rw [hka]; simp] at BK4; have HI4 := (Rdr.far (p := ⟨w.heap.size, 1, none⟩) HI3.out (by show g ≠ w.heap.size; have := HG1.out; omega) (fun b hb => by show b ≠ w.heap.size; have : b < w.heap.size := hb; omega) (.slice (some ⟨ka, 0, none⟩) 1 1)).below (eA (Below.refl _ _) (.cells #[.string a] 9)); have HB4 := eA (eS (g := w.heap.size) (j := 1) (v := .slice (some ⟨ka, 0, none⟩) 1 1) HB3.out (Nat.le_refl _)) (.cells #[.string a] 9); rw [show ∀ (p0 p1 p2 p3 p4 p5 p6 p7 u : Value), (#[p0, p1, p2, p3, p4, p5, p6, p7] : Array Value).setIfInBounds 1 u = #[p0, u, p2, p3, p4, p5, p6, p7] from fun _ _ _ _ _ _ _ _ _ => rfl] at BC4; clear hf3 hc3 hlt3 hka; generalize ((w3.setCell ⟨w.heap.size, 1, none⟩ (.slice (some ⟨ka, 0, none⟩) 1 1)).alloc (.cells #[.string a] 9)) = W4 at BC4 BR4 BK4 HI4 HB4 ⊢; clear BC3 BR3 HB3 HI3; have HKA : Aside0 (g ≠ ka ∧ w.heap.size + 1 < ka) := ⟨by omega, hrk⟩; clear hgk hrk
 with_reducible refine (Rdr.number (ok := fun b => b < w.heap.size) g b (e :: d :: rest) v1 fl fe 4294967295 4 w _ HI4 HB4 HGL.out HL.out HP.out).mono ?_
 rintro e_ w5 ⟨rfl, hI, hB, hK⟩
 rw [HV2.out] at hI; have BC5 := Aside0.mk (blk_keep BC4 hK (by have := HG1.out; omega)); have BR5 := Aside0.mk (blk_keep BR4 hK (by have := HG1.out; omega)); have BK5 := Aside0.mk (blk_keep BK4 hK (fun e => HKA.out.1 e.symm)); have HB5 := Aside0.mk hB; have HI5 := Aside0.mk hI; clear hI hB hK BC4 BR4 BK4 HB4 HI4
 go_wp2_with (first | fail)
 with_reducible refine (Rdr.next (ok := fun b => b < w.heap.size) g e (d :: rest) v2 w _ HI5.out HB5.out HGL.out).mono ?_
 rintro e_ w6 ⟨rfl, hI, hB, hK⟩
 have BC6 := Aside0.mk (blk_keep BC5.out hK (by have := HG1.out; omega)); have BR6 := Aside0.mk (blk_keep BR5.out hK (by have := HG1.out; omega)); have BK6 := Aside0.mk (blk_keep BK5.out hK (fun e => HKA.out.1 e.symm)); have HB6 := Aside0.mk hB; have HI6 := Aside0.mk hI; clear hI hB hK BC5 BR5 BK5 HB5 HI5
 go_wp2_with (first | fail)
 with_reducible refine (Rdr.next (ok := fun b => b < w.heap.size) g d (rest) v2 w _ HI6.out HB6.out HGL.out).mono ?_
 rintro e_ w7 ⟨rfl, hI, hB, hK⟩
 have BC7 := Aside0.mk (blk_keep BC6.out hK (by have := HG1.out; omega)); have BR7 := Aside0.mk (blk_keep BR6.out hK (by have := HG1.out; omega)); have BK7 := Aside0.mk (blk_keep BK6.out hK (fun e => HKA.out.1 e.symm)); have HB7 := Aside0.mk hB; have HI7 := Aside0.mk hI; clear hI hB hK BC6 BR6 BK6 HB6 HI6
 have hc7 : w7.cell? ⟨w.heap.size, 0, none⟩ = some (.int .i64 kd) := (blk_cell BC7.out 0).trans rfl; rw [HV3.out] at HI7; obtain ⟨Ag, ng, cg, hcg⟩ : ∃ A' n' c', w7.cell? ⟨g, 0, none⟩ = some (.slice A' n' c') := by obtain ⟨A', c', hb, _⟩ := HI7.out; exact ⟨_, _, _, (blk_cell hb 0).trans rfl⟩
 have hfg : w7.frozen? ⟨g, 0, none⟩ = false := by obtain ⟨A', c', hb, _⟩ := HI7.out; exact blk_frozen hb 0
 have hglt : g < w7.heap.size := HI7.out.lt; have hclt : w.heap.size < w7.heap.size := blk_lt BC7.out
 go_wp2_with (first | fail)
 have HIp := HI7.out; have BCp := BC7.out; have BRp := BR7.out; have BKp := BK7.out; have HBp := HB7.out; clear hc7
 have HIq := Rdr.re e HIp; have BCq := bA (blk_far (p := ⟨g, 0, none⟩) BCp (by show w.heap.size ≠ g; have := HG1.out; omega) (.slice (some ⟨w7.heap.size, 0, none⟩) 1 1)) (.cells #[.string e] 9); have BRq := bA (blk_far (p := ⟨g, 0, none⟩) BRp (by show w.heap.size + 1 ≠ g; have := HG1.out; omega) (.slice (some ⟨w7.heap.size, 0, none⟩) 1 1)) (.cells #[.string e] 9); have BKq := bA (blk_far (p := ⟨g, 0, none⟩) BKp (by show ka ≠ g; exact fun e_ => HKA.out.1 e_.symm) (.slice (some ⟨w7.heap.size, 0, none⟩) 1 1)) (.cells #[.string e] 9); have HBq := eA (eS (g := g) (j := 0) (v := (.slice (some ⟨w7.heap.size, 0, none⟩) 1 1)) HBp HGL.out) (.cells #[.string e] 9); clear HIp BCp BRp BKp HBp hfg hglt hclt hcg
 with_reducible refine (Rdr.signed (ok := fun b => b = w7.heap.size) k g e [] v3 ends ee w _ HIq HBq HGL.out HL.out HX.out).mono ?_
 rintro e_ w9 ⟨rfl, hI, hB, hK⟩
 rw [HV4.out] at hI; have BC9 := Aside0.mk (blk_keep BCq hK (by have := HG1.out; omega)); have BR9 := Aside0.mk (blk_keep BRq hK (by have := HG1.out; omega)); have BK9 := Aside0.mk (blk_keep BKq hK (fun e_ => HKA.out.1 e_.symm)); have HB9 := Aside0.mk hB
 obtain ⟨Aq, cq, hbq, _⟩ := hI; have hcg1 : w9.cell? ⟨g, 1, none⟩ = some (.int .i64 v4) := (blk_cell hbq 1).trans rfl; have hgl9 : g < w9.heap.size := blk_lt hbq; have hcl9 : w.heap.size < w9.heap.size := blk_lt BC9.out; have hrl9 : w.heap.size + 1 < w9.heap.size := blk_lt BR9.out
 clear BCq BRq BKq HBq HIq hK hB hbq; obtain ⟨hcz, hfz⟩ := d8 BC9; obtain ⟨hcy, hfy⟩ := d11 BR9; clear BC7 BR7 BK7 HB7 HI7; have N1 : Aside0 (w.heap.size + 1 ≠ w.heap.size) := ⟨by omega⟩; have N2 : Aside0 (ka ≠ w.heap.size) := ⟨by have := HKA.out; omega⟩; have N3 : Aside0 (ka ≠ w.heap.size + 1) := ⟨by have := HKA.out; omega⟩; have N4 : Aside0 (w.heap.size ≤ w.heap.size) := ⟨Nat.le_refl _⟩; have N5 : Aside0 (w.heap.size ≤ w.heap.size + 1) := ⟨by omega⟩; have N6 : Aside0 (w.heap.size ≤ ka) := ⟨by have := HKA.out; omega⟩
 by_cases hsw : size ≤ 2147483647
 ·have hswb : decide (size ≤ 2147483647) = true := decide_eq_true hsw
  by_cases hv : v4 = 0
  ·have hvb : (v4 != 0) = false := bne_eq_false_iff_eq.2 hv; have HV := Aside0.mk hv; have HSW : Aside0 (size ≤ 2147483647) := ⟨hsw⟩; clear hv hsw
   by_cases h2k : 2000 < size
   ·have h2b : decide (2000 < size) = true := decide_eq_true h2k; have H2 := Aside0.mk h2k; clear h2k; have HSW2 := HSW.out
    go_wp2
    go_region
    go_wp2; refine bodyPost_ret (results_cell_row rfl _ _ (w.heap.size + 1) 57 #[.int .i64 8, .int .i64 kd, .slice (some ⟨ka, 0, none⟩) 1 1, .int .u32 0, .int .i64 0, .string ⟨#[]⟩, .int .u64 0, .int .u64 0, .bool q, .int .i64 0, .int .i64 (size + 2)] (0, 0) _ rfl (bV BR9.out) Tryd.underlying57 rfl (by kernel_rfl)) rfl ?_
    unfold line_stores.fin; rw [if_pos HV.out, if_pos H2.out, if_pos HSW.out]; exact ⟨_, rfl, Kd.R_mono (litR (bK BK9.out) N6.out) (fun _ _ => trivial), bH HB9.out⟩
   ·have h2b : decide (2000 < size) = false := decide_eq_false h2k; have H2 : Aside0 (¬ 2000 < size) := ⟨h2k⟩; clear h2k; have HSW2 := HSW.out
    by_cases h8 : kd = 8
    ·have h8b : (kd != 8) = false := bne_eq_false_iff_eq.2 h8; have H8 := Aside0.mk h8; clear h8
     go_wp2; refine bodyPost_ret (results_cell_row rfl _ _ (w.heap.size + 1) 57 #[.int .i64 2, .int .i64 kd, .slice (some ⟨ka, 0, none⟩) 1 1, .int .u32 0, .int .i64 0, .string ⟨#[]⟩, .int .u64 0, .int .u64 0, .bool q, .int .i64 size, .int .i64 0] (0, 0) _ rfl (bV BR9.out) Tryd.underlying57 rfl (by kernel_rfl)) rfl ?_
     unfold line_stores.fin; rw [if_pos HV.out, if_neg (show ¬ 2000 < size by have := H2.out; omega), if_pos (Or.inl H8.out)]; exact ⟨_, rfl, Kd.R_mono (litR (bK BK9.out) N6.out) (fun _ _ => trivial), bH HB9.out⟩
    ·have h8b : (kd != 8) = true := bne_iff_ne.2 h8; have H8 : Aside0 (¬ kd = 8) := ⟨h8⟩; clear h8
     by_cases h9 : kd = 9
     ·have h9b : (kd != 9) = false := bne_eq_false_iff_eq.2 h9; have H9 := Aside0.mk h9; clear h9
      go_wp2; refine bodyPost_ret (results_cell_row rfl _ _ (w.heap.size + 1) 57 #[.int .i64 2, .int .i64 kd, .slice (some ⟨ka, 0, none⟩) 1 1, .int .u32 0, .int .i64 0, .string ⟨#[]⟩, .int .u64 0, .int .u64 0, .bool q, .int .i64 size, .int .i64 0] (0, 0) _ rfl (bV BR9.out) Tryd.underlying57 rfl (by kernel_rfl)) rfl ?_
      unfold line_stores.fin; rw [if_pos HV.out, if_neg (show ¬ 2000 < size by have := H2.out; omega), if_pos (Or.inr H9.out)]; exact ⟨_, rfl, Kd.R_mono (litR (bK BK9.out) N6.out) (fun _ _ => trivial), bH HB9.out⟩
     ·have h9b : (kd != 9) = true := bne_iff_ne.2 h9; have H9 : Aside0 (¬ kd = 9) := ⟨h9⟩; clear h9
      go_wp2; refine bodyPost_ret (results_cell_row rfl _ _ (w.heap.size + 1) 57 #[.int .i64 2, .int .i64 kd, .slice (some ⟨ka, 0, none⟩) 1 1, .int .u32 (fl % 4294967296), .int .i64 ends, .string ⟨#[]⟩, .int .u64 0, .int .u64 0, .bool q, .int .i64 size, .int .i64 0] (0, 0) _ rfl (bV BR9.out) Tryd.underlying57 rfl (by kernel_rfl)) rfl ?_
      unfold line_stores.fin; rw [if_pos HV.out, if_neg (show ¬ 2000 < size by have := H2.out; omega), if_neg (fun h => h.elim H8.out H9.out)]; exact ⟨_, rfl, Kd.R_mono (litR (bK BK9.out) N6.out) (fun _ _ => trivial), bH HB9.out⟩
  ·have hvb : (v4 != 0) = true := bne_iff_ne.2 hv; have HV : Aside0 (¬ v4 = 0) := ⟨hv⟩; have HSW : Aside0 (size ≤ 2147483647) := ⟨hsw⟩; clear hv
   go_wp2; refine bodyPost_ret (results_cell_row rfl _ _ (w.heap.size + 1) 57 #[.int .i64 v4, .int .i64 0, .slice none 0 0, .int .u32 0, .int .i64 0, .string ⟨#[]⟩, .int .u64 0, .int .u64 0, .bool false, .int .i64 0, .int .i64 (size + 2)] (0, 0) _ rfl (bV BR9.out) Tryd.underlying57 rfl (by kernel_rfl)) rfl ?_
   unfold line_stores.fin; rw [if_neg HV.out, if_pos HSW.out]; exact ⟨_, rfl, Kd.R_nil _ _ _ _ _, bH HB9.out⟩
 ·have hswb : decide (size ≤ 2147483647) = false := decide_eq_false hsw
  by_cases hv : v4 = 0
  ·have hvb : (v4 != 0) = false := bne_eq_false_iff_eq.2 hv; have HV := Aside0.mk hv; have HSW : Aside0 (¬ size ≤ 2147483647) := ⟨hsw⟩; clear hv hsw
   have h2b : decide (2000 < size) = true := decide_eq_true (by have := HSW.out; omega); have H2 : Aside0 (2000 < size) := ⟨by have := HSW.out; omega⟩; go_wp2
   go_region
   go_wp2; refine bodyPost_ret (results_cell_row rfl _ _ (w.heap.size + 1) 57 #[.int .i64 8, .int .i64 kd, .slice (some ⟨ka, 0, none⟩) 1 1, .int .u32 0, .int .i64 0, .string ⟨#[]⟩, .int .u64 0, .int .u64 0, .bool q, .int .i64 0, .int .i64 0] (0, 0) _ rfl (bV BR9.out) Tryd.underlying57 rfl (by kernel_rfl)) rfl ?_
   unfold line_stores.fin; rw [if_pos HV.out, if_pos H2.out, if_neg (show ¬ size ≤ 2147483647 by have := HSW.out; omega)]; exact ⟨_, rfl, Kd.R_mono (litR (bK BK9.out) N6.out) (fun _ _ => trivial), bH HB9.out⟩
  ·have hvb : (v4 != 0) = true := bne_iff_ne.2 hv; have HV : Aside0 (¬ v4 = 0) := ⟨hv⟩; have HSW : Aside0 (¬ size ≤ 2147483647) := ⟨hsw⟩; clear hv hsw
   go_wp2; refine bodyPost_ret (results_cell_row rfl _ _ (w.heap.size + 1) 57 #[.int .i64 v4, .int .i64 0, .slice none 0 0, .int .u32 0, .int .i64 0, .string ⟨#[]⟩, .int .u64 0, .int .u64 0, .bool false, .int .i64 0, .int .i64 0] (0, 0) _ rfl (bV BR9.out) Tryd.underlying57 rfl (by kernel_rfl)) rfl ?_
   unfold line_stores.fin; rw [if_neg HV.out, if_neg (show ¬ size ≤ 2147483647 by have := HSW.out; omega)]; exact ⟨_, rfl, Kd.R_nil _ _ _ _ _, bH HB9.out⟩

set_option maxHeartbeats 1000000 in
set_option maxRecDepth 100000 in
theorem line_stores.bad (k : Nat) (kd : Int) (q : Bool) (A : Option Addr) (c n : Nat) (a b e d : ByteArray) (rest : List ByteArray) (size er : Int) (w : World) (hC : Kd.C Kd.string w A n (a :: b :: e :: d :: rest)) (hL : LdS w) (hs : digits_Signed.f k d = some (size, er)) (hb : ¬ (er = 0 ∧ 0 ≤ size)) :
  Calls Tryd.prog 34 #[.agg #[.int .i64 kd, .slice none 0 0, .int .u32 0, .int .i64 0, .string ⟨#[]⟩, .int .u64 0, .int .u64 0, .bool q], .slice A n c] w (ParsedPost w (zP 5)) := by
 have hn : (a :: b :: e :: d :: rest).length = n := hC.1; have hn4 : n = rest.length + 1 + 1 + 1 + 1 := hn.symm; obtain ⟨ad, rfl, hcell⟩ := Kd.at_string hC (3 : Int) (by omega) (by rw [hn4]; omega); have hx3 : w.cell? ⟨ad.block, ad.off + 3, none⟩ = some (.string d) := by simpa [Addr.add, rdOf] using hcell
 have h3n : 3 < n := by omega
 have hlt3 : ad.block < w.heap.size := World.block_lt_of_cell? w ⟨ad.block, ad.off + 3, none⟩ hx3
 have HS := Aside0.mk hs; have HL := Aside0.mk hL
 clear hcell hs hn hn4 hC hL; have fin : ∀ W0 w1 : World, Below w.heap.size w W0 → Below W0.heap.size W0 w1 → W0.heap[w.heap.size + 1]? = some (.cells #[.int .i64 0, .int .i64 0, .slice none 0 0, .int .u32 0, .int .i64 0, .string ⟨#[]⟩, .int .u64 0, .int .u64 0, .bool false, .int .i64 0, .int .i64 0] 57 (0, 0)) → True := fun _ _ _ _ _ => trivial
 by_cases he : er = 0
 ·have hlt : size < 0 := by
   by_cases h : size < 0
   ·exact h
   ·exact absurd ⟨he, by omega⟩ hb
  subst he; have hsb : decide (size < 0) = true := decide_eq_true hlt; clear hb hlt fin; go_enter Tryd.func34, Tryd.ntmps34
  go_wp2_with (first | (go_at_call 45; (with_reducible refine (digits_Signed.calls k d size 0 _ HS.out (HL.out.on (eA (eA (Below.refl _ _) _) _))).mono ?_); rintro e_ w1 ⟨rfl, hB⟩; have BR1 := Aside0.mk (blk_below (blk_new (w.alloc (.cells #[.int .i64 kd, .slice none 0 0, .int .u32 0, .int .i64 0, .string ⟨#[]⟩, .int .u64 0, .int .u64 0, .bool q] 37)) _) hB); have HB1 := Aside0.mk (below_step (eA (eA (Below.refl w.heap.size w) _) _) hB); clear hB; simp only [World.size_alloc] at BR1; obtain ⟨hcy, hfy⟩ := d11 BR1))
  have N5 : Aside0 (w.heap.size ≤ w.heap.size + 1) := ⟨by omega⟩; refine bodyPost_ret (results_cell_row rfl _ _ (w.heap.size + 1) 57 #[.int .i64 5, .int .i64 0, .slice none 0 0, .int .u32 0, .int .i64 0, .string ⟨#[]⟩, .int .u64 0, .int .u64 0, .bool false, .int .i64 0, .int .i64 0] (0, 0) _ rfl (bV BR1.out) Tryd.underlying57 rfl (by kernel_rfl)) rfl ?_
  exact ParsedPost.zp (bH HB1.out)
 ·have heb : (er != 0) = true := bne_iff_ne.2 he; clear hb he fin; go_enter Tryd.func34, Tryd.ntmps34
  go_wp2_with (first | (go_at_call 45; (with_reducible refine (digits_Signed.calls k d size er _ HS.out (HL.out.on (eA (eA (Below.refl _ _) _) _))).mono ?_); rintro e_ w1 ⟨rfl, hB⟩; have BR1 := Aside0.mk (blk_below (blk_new (w.alloc (.cells #[.int .i64 kd, .slice none 0 0, .int .u32 0, .int .i64 0, .string ⟨#[]⟩, .int .u64 0, .int .u64 0, .bool q] 37)) _) hB); have HB1 := Aside0.mk (below_step (eA (eA (Below.refl w.heap.size w) _) _) hB); clear hB; simp only [World.size_alloc] at BR1; obtain ⟨hcy, hfy⟩ := d11 BR1))
  have N5 : Aside0 (w.heap.size ≤ w.heap.size + 1) := ⟨by omega⟩; refine bodyPost_ret (results_cell_row rfl _ _ (w.heap.size + 1) 57 #[.int .i64 5, .int .i64 0, .slice none 0 0, .int .u32 0, .int .i64 0, .string ⟨#[]⟩, .int .u64 0, .int .u64 0, .bool false, .int .i64 0, .int .i64 0] (0, 0) _ rfl (bV BR1.out) Tryd.underlying57 rfl (by kernel_rfl)) rfl ?_
  exact ParsedPost.zp (bH HB1.out)
theorem line_stores.calls (k : Nat) (kd : Int) (q : Bool) (A : Option Addr) (c : Nat) (ws : List ByteArray) (r : Int × Int × List ByteArray × Int × Int × ByteArray × Int × Int × Bool × Int × Int) (w : World) (hC : Kd.C Kd.string w A ws.length ws) (hc : ws.length ≤ c) (hL : LdS w) (h : line_stores.f k kd q ws = some r) :
  Calls Tryd.prog 34 #[.agg #[.int .i64 kd, .slice none 0 0, .int .u32 0, .int .i64 0, .string ⟨#[]⟩, .int .u64 0, .int .u64 0, .bool q], .slice A ws.length c] w (ParsedPost w r) := by
 unfold line_stores.f at h
 split at h
 ·rename_i a b e d rest
  obtain ⟨⟨size, er⟩, hs, h⟩ := Option.bind_eq_some_iff.mp h
  split at h
  ·rename_i hg
   obtain ⟨he, hs0⟩ := hg; obtain ⟨kb, hk, h⟩ := Option.bind_eq_some_iff.mp h; obtain ⟨⟨fl, fe⟩, hp, h⟩ := Option.bind_eq_some_iff.mp h; obtain ⟨⟨cas, v3⟩, hcv, h⟩ := Option.bind_eq_some_iff.mp h; obtain ⟨⟨ends, ee⟩, hx, h⟩ := Option.bind_eq_some_iff.mp h; obtain rfl := Option.some.inj h; obtain rfl : er = 0 := he; unfold line_stores.cas at hcv
   split at hcv
   ·rename_i hkd
    cases rest with
    | cons x rest' =>
     obtain ⟨⟨cs, ce⟩, hcs, hcv⟩ := Option.bind_eq_some_iff.mp hcv; have hcv := Option.some.inj hcv; have h1 : cs = cas := congrArg Prod.fst hcv; subst h1; exact line_stores.go_cas k kd q A c _ a b e d x rest' size fl fe ends ee cs ce _ _ v3 _ kb w hkd hC hc hL hs hs0 hk hp hcs hx rfl rfl (congrArg Prod.snd hcv) rfl
    | nil => cases hcv
   ·rename_i hkd
    have hcv := Option.some.inj hcv; have h1 : 0 = cas := congrArg Prod.fst hcv; subst h1; exact line_stores.go_plain k kd q A c _ a b e d rest size fl fe ends ee _ _ v3 _ kb w hkd hC hc hL hs hs0 hk hp hx rfl rfl (congrArg Prod.snd hcv) rfl
  ·rename_i hb
   obtain rfl := Option.some.inj h; exact line_stores.bad k kd q A c _ a b e d rest size er w hC hL hs hb
 ·cases h

end Go.Proofs.YtginfaencjmhgaaDoor.P
