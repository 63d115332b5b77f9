/- Lean functions for the Go functions that the laws of this seat use, and the proofs that the Go code computes them; conditions: the readings that each theorem names. Written by a program. -/
import Derived.Test.YtdgpagocccabdaaDoorPx0
import Derived.Test.YtdgpagocccabdaaDoorPx3
import Derived.Test.YtdgpagocccabdaaDoorLaws
import Derived.Test.YtdgpagocccabdaaDoorPx6
import Derived.Test.YtdgpagocccabdaaDoorPx8
import Derived.Test.YtdgpagocccabdaaDoorShort
import Derived.Test.YtdgpagocccabdaaDoorBld
namespace Go.Proofs.YtdgpagocccabdaaDoor.P
open Go.RowKit Go.Proofs.YtdgpagocccabdaaDoorW.PrintWords Go.Proofs.YtdgpagocccabdaaDoorW.PrintLast Go.Proofs.YtdgpagocccabdaaDoorW.PrintMore
set_option linter.unusedVariables false
set_option linter.unusedSimpArgs false

-- HAND
-- FN tallboy/reply.Text
-- ROUNDS 0
-- MAKING 1
-- FAMS reply
-- LAID T
-- IMPORT Derived.Test.YtdgpagocccabdaaDoorBld
/-! ### reply.Text, by the shelf's builder -/
def reply_Text.piece (kind : Int) (x : S60) : Option ByteArray :=
 (digits_Text.f (IntKind.u64.wrap x.f1)).bind fun fl => (digits_Text.f (IntKind.u64.wrap (x.f2.size : Int))).bind fun sz => (verb_Shows.f kind).bind fun sh =>
  (if sh = true then (digits_Text.f x.f3).bind fun cs => strings_Join.f [(⟨#[86, 65, 76, 85, 69]⟩ : ByteArray), x.f0, fl, sz, cs] (⟨#[32]⟩ : ByteArray) else strings_Join.f [(⟨#[86, 65, 76, 85, 69]⟩ : ByteArray), x.f0, fl, sz] (⟨#[32]⟩ : ByteArray)).bind fun j =>
   if j.size + x.f2.size ≤ 70368744177664 then some (((j ++ (⟨#[13, 10]⟩ : ByteArray)) ++ x.f2) ++ (⟨#[13, 10]⟩ : ByteArray)) else none
def reply_Text.go (kind : Int) : List S60 → ByteArray → Option ByteArray
 | [], acc => if acc.size ≤ 70368744177664 then some (acc ++ (⟨#[69, 78, 68, 13, 10]⟩ : ByteArray)) else none
 | x :: l, acc => (reply_Text.piece kind x).bind fun p => if acc.size + p.size ≤ 140737488355328 then reply_Text.go kind l (acc ++ p) else none
def reply_Text.f (a0 a1_0 : Int) (l1_1 : List S60) (a1_2 : Int) : Option ByteArray :=
 if a1_0 < 1 then some ⟨#[]⟩ else if 12 < a1_0 then some ⟨#[]⟩ else if a1_0 = 7 then (digits_Text.f a1_2).bind fun t => if t.size ≤ 1000000 then some (t ++ (⟨#[13, 10]⟩ : ByteArray)) else none
 else if a1_0 = 1 then reply_Text.go a0 l1_1 ⟨#[]⟩ else if (rdOf ByteArray.empty (reply_lines.l a0) a1_0).size ≤ 1000000 then some (rdOf ByteArray.empty (reply_lines.l a0) a1_0 ++ (⟨#[13, 10]⟩ : ByteArray)) else none
theorem bld_below {B b : Nat} {bs : List Value} {W W' : World} (h : Lib.IsBuilder 59 5 B b bs W) (hb : Below W.heap.size W W') : Lib.IsBuilder 59 5 B b bs W' := by
 rcases h with ⟨h1, v, h2, h3, h4⟩ | ⟨h1, v, h2, h3, h4⟩
 ·exact Or.inl ⟨h1, v, blk_below h2 hb, pw_own_below h3 hb, h4⟩
 ·exact Or.inr ⟨h1, v, blk_below h2 hb, pw_own_below h3 hb, h4⟩
theorem bld_keep {B b g : Nat} {bs : List Value} {cs : Array Value} {t : TypeId} {W W' : World} (h : Lib.IsBuilder 59 5 B b bs W) (hg : W.heap[g]? = some (.cells cs t (0, 0))) (h1 : t ≠ 59) (h2 : 5 ≠ t) (hk : KeepBut W W' g none) : Lib.IsBuilder 59 5 B b bs W' := by
 have key : ∀ p, Lib.BuilderAt 59 5 B b p bs W → Lib.BuilderAt 59 5 B b p bs W' := by
  rintro p ⟨q1, v, q2, q3, q4⟩
  refine ⟨q1, v, hk.blk q2 (fun e => ?_) (by simp), hk.own q3 (fun e => own_ne q3 hg h2 e.symm) ?_, q4⟩
  ·rw [e, hg] at q2
   injection q2 with q2
   injection q2 with _ q2
   exact h1 q2
  ·cases v.ownBlock
   ·exact .inl rfl
   ·exact .inr (by simp)
 exact h.imp (key _) (key _)
theorem bld_grown {B b base sz n : Nat} {bs xs : List Value} {e : TypeId} {v : Value} {W w1 : World} (h : Lib.IsBuilder 59 5 B b bs W) (ho : W.ownsRow base e sz v n xs) (h1 : e ≠ 59) (h2 : 5 ≠ e) (hg : W.grownBy w1 v.ownBlock) : Lib.IsBuilder 59 5 B b bs w1 := by
 have key : ∀ p, Lib.BuilderAt 59 5 B b p bs W → Lib.BuilderAt 59 5 B b p bs w1 := by
  rintro p ⟨q1, u, q2, q3, q4⟩
  exact ⟨q1, u, blk_grown q2 hg (own_ne ho q2 h1), own_other q3 hg (own_type_ne q3 ho h2), q4⟩
 exact h.imp (key _) (key _)
theorem bld_cat (a s : ByteArray) : Lib.byteCells a.data.toList ++ Lib.strCells s = Lib.byteCells (a ++ s).data.toList := by
 unfold Lib.byteCells Lib.strCells; rw [ByteArray.data_append, Array.toList_append, List.map_append]
theorem bld_len (a : ByteArray) : (Lib.byteCells a.data.toList).length = a.size := by
 unfold Lib.byteCells; rw [List.length_map, Array.length_toList]
 rfl
theorem info_str : (Tryd.prog.info? 9).map (fun i => (i.zero, i.size, i.bytes)) = some (some (.string ⟨#[]⟩), 1, 16) := by kernel_rfl
theorem below_of_grown {W w1 : World} (h : W.grownBy w1 none) : Below W.heap.size W w1 := (Below.refl _ _).grown h (Nat.le_refl _) (fun k hk => by cases hk)
theorem strs_reps (W : World) (base : Nat) (okp : Nat → Prop) (xs : List ByteArray) : Reps (Kd.M Kd.string W base okp) Kd.string.sz xs (xs.map Value.string) := by
 refine ⟨by rw [List.length_map]; exact (Nat.mul_one _).symm, fun j p h => ?_⟩
 show ((xs.map Value.string).drop (j * 1)).take 1 = [Value.string p]
 obtain ⟨hj, rfl⟩ := List.getElem?_eq_some_iff.1 h; rw [Nat.mul_one, List.drop_eq_getElem_cons (by rw [List.length_map]; exact hj), List.take_succ_cons, List.take_zero, List.getElem_map]
theorem at_hit {w : World} {A : Option Addr} {n : Nat} {xs : List S60} (h : Kd.C k60 w A n xs) (i : Nat) (h1 : i < n) : ∃ ad, A = some ad ∧ ∀ W, Below w.heap.size w W → W.cell? (ad.add (i * 4)) = some (.string (xs.getD i z60).f0) ∧ W.cell? ⟨(ad.add (i * 4)).block, (ad.add (i * 4)).off + 1, none⟩ = some (.int .u32 (xs.getD i z60).f1) ∧ W.cell? ⟨(ad.add (i * 4)).block, (ad.add (i * 4)).off + 2, none⟩ = some (.string (xs.getD i z60).f2) ∧ W.cell? ⟨(ad.add (i * 4)).block, (ad.add (i * 4)).off + 3, none⟩ = some (.int .u64 (xs.getD i z60).f3) := by
 obtain ⟨ad, e, q0, q1, q2, q3⟩ := at_T60 h (i : Int) (by omega) (by omega); simp only [rd_T60, Int.toNat_natCast] at q0 q1 q2 q3; have hf : ∀ {W : World} (hb : Below w.heap.size w W) {a : Addr} {v : Value} (hq : w.cell? a = some v), W.cell? a = some v := fun hb _ _ hq => (hb.cell (World.block_lt_of_cell? w _ hq)).trans hq
 exact ⟨ad, e, fun W hb => ⟨hf hb q0, hf hb q1, hf hb q2, hf hb q3⟩⟩
set_option maxHeartbeats 4000000 in
set_option maxRecDepth 100000 in
theorem reply_Text.calls1 (a0 a1_0 : Int) (A1_1 : Option Addr) (c1_1 : Nat) (l1_1 : List S60) (a1_2 : Int) (r : ByteArray) (w : World) (hr1_1 : Kd.C k60 w A1_1 l1_1.length l1_1) (hc1_1 : l1_1.length ≤ c1_1) (hA : a1_0 < 1 ∨ 12 < a1_0) (h : reply_Text.f a0 a1_0 l1_1 a1_2 = some r) (hL : LdT w) :
  Calls Tryd.prog 9 #[.int .i64 a0, .agg #[.int .i64 a1_0, .slice A1_1 l1_1.length c1_1, .int .u64 a1_2]] w fun e w' => e = .returned (.string r) ∧ Below w.heap.size w w' := by
 have HL := Aside0.mk hL; have HR := Aside0.mk hr1_1; have HB := Aside0.mk (Below.refl w.heap.size w); unfold reply_Text.f at h
 have hr : r = ⟨#[]⟩ := by
  rcases hA with hA | hA
  ·rw [if_pos hA] at h; exact (Option.some.inj h).symm
  ·rw [if_neg (by omega), if_pos hA] at h; exact (Option.some.inj h).symm
 subst hr; clear h; obtain ⟨n, hn⟩ : ∃ n, n = l1_1.length := ⟨_, rfl⟩; rw [← hn] at hc1_1 ⊢; have HN := Aside0.mk hn; clear hr1_1 hn hL
 by_cases h1 : a1_0 < 1
 ·have d1 : decide (a1_0 < 1) = true := decide_eq_true h1; clear hA h1; go_enter Tryd.func9, Tryd.ntmps9
  go_wp2_with (first | ((with_reducible refine gate_dst (N := 3) rfl ?_); (refine bE 3 #[.int .i64 a1_0, .slice A1_1 n c1_1, .int .u64 a1_2] 30 rfl rfl ?_; intro g3 hg3 w3 hbox hb; have B3 := Aside0.mk hbox; have G3 := Aside0.mk (show w.heap.size ≤ g3 by rw [hg3]; exact HB.out.size); replace HB := Aside0.mk (below_step HB.out hb); clear hg3 hbox hb; obtain ⟨hcz3, hfz3⟩ := d3 B3)))
  go_ret
  exact ⟨rfl, HB.out⟩
 ·have h2 : 12 < a1_0 := by omega
  have d1 : decide (a1_0 < 1) = false := decide_eq_false h1; have d2 : decide (12 < a1_0) = true := decide_eq_true h2; clear hA h1 h2; go_enter Tryd.func9, Tryd.ntmps9
  go_wp2_with (first | ((with_reducible refine gate_dst (N := 3) rfl ?_); (refine bE 3 #[.int .i64 a1_0, .slice A1_1 n c1_1, .int .u64 a1_2] 30 rfl rfl ?_; intro g3 hg3 w3 hbox hb; have B3 := Aside0.mk hbox; have G3 := Aside0.mk (show w.heap.size ≤ g3 by rw [hg3]; exact HB.out.size); replace HB := Aside0.mk (below_step HB.out hb); clear hg3 hbox hb; obtain ⟨hcz3, hfz3⟩ := d3 B3)))
  go_ret
  exact ⟨rfl, HB.out⟩
set_option maxHeartbeats 4000000 in
set_option maxRecDepth 100000 in
theorem reply_Text.calls2 (a0 a1_0 : Int) (A1_1 : Option Addr) (c1_1 : Nat) (l1_1 : List S60) (a1_2 : Int) (r : ByteArray) (w : World) (hr1_1 : Kd.C k60 w A1_1 l1_1.length l1_1) (hc1_1 : l1_1.length ≤ c1_1) (hA : a1_0 = 7) (h : reply_Text.f a0 a1_0 l1_1 a1_2 = some r) (hL : LdT w) :
  Calls Tryd.prog 9 #[.int .i64 a0, .agg #[.int .i64 a1_0, .slice A1_1 l1_1.length c1_1, .int .u64 a1_2]] w fun e w' => e = .returned (.string r) ∧ Below w.heap.size w w' := by
 have HL := Aside0.mk hL; have HR := Aside0.mk hr1_1; have HB := Aside0.mk (Below.refl w.heap.size w); unfold reply_Text.f at h; subst hA; rw [if_neg (by decide), if_neg (by decide), if_pos rfl] at h; obtain ⟨t, ht, h⟩ := Option.bind_eq_some_iff.1 h; have HT := Aside0.mk ht
 split at h
 ·rename_i hsz
  have hr := Option.some.inj h; subst hr; have hz1 : (9223372036854775807 < t.size + 2) = False := eq_false (by omega); have hz2 : (t.size + 2 ≤ 9223372036854775807) = True := eq_true (by omega); clear h ht hsz; obtain ⟨n, hn⟩ : ∃ n, n = l1_1.length := ⟨_, rfl⟩; rw [← hn] at hc1_1 ⊢; have HN := Aside0.mk hn; clear hr1_1 hn hL; go_enter Tryd.func9, Tryd.ntmps9
  go_wp2_with (first | ((with_reducible refine gate_dst (N := 3) rfl ?_); (refine bE 3 #[.int .i64 7, .slice A1_1 n c1_1, .int .u64 a1_2] 30 rfl rfl ?_; intro g3 hg3 w3 hbox hb; have B3 := Aside0.mk hbox; have G3 := Aside0.mk (show w.heap.size ≤ g3 by rw [hg3]; exact HB.out.size); replace HB := Aside0.mk (below_step HB.out hb); clear hg3 hbox hb; obtain ⟨hcz3, hfz3⟩ := d3 B3)) | (go_at_call 21; ((with_reducible refine (digits_Text.calls a1_2 t _ HT.out (HL.out.on HB.out)).mono ?_); rintro e w5 ⟨rfl, hb⟩; replace HB := Aside0.mk (below_step HB.out hb))))
  go_ret
  exact ⟨rfl, HB.out⟩
 ·cases h
set_option maxHeartbeats 4000000 in
set_option maxRecDepth 100000 in
theorem reply_Text.calls3 (a0 a1_0 : Int) (A1_1 : Option Addr) (c1_1 : Nat) (l1_1 : List S60) (a1_2 : Int) (r : ByteArray) (w : World) (hr1_1 : Kd.C k60 w A1_1 l1_1.length l1_1) (hc1_1 : l1_1.length ≤ c1_1) (hA : 1 ≤ a1_0 ∧ a1_0 ≤ 12 ∧ a1_0 ≠ 7 ∧ a1_0 ≠ 1) (h : reply_Text.f a0 a1_0 l1_1 a1_2 = some r) (hL : LdT w) :
  Calls Tryd.prog 9 #[.int .i64 a0, .agg #[.int .i64 a1_0, .slice A1_1 l1_1.length c1_1, .int .u64 a1_2]] w fun e w' => e = .returned (.string r) ∧ Below w.heap.size w w' := by
 have HL := Aside0.mk hL; have HR := Aside0.mk hr1_1; have HB := Aside0.mk (Below.refl w.heap.size w); unfold reply_Text.f at h; rw [if_neg (by omega), if_neg (by omega), if_neg hA.2.2.1, if_neg hA.2.2.2] at h; obtain ⟨t, ht⟩ : ∃ t, t = rdOf ByteArray.empty (reply_lines.l a0) a1_0 := ⟨_, rfl⟩; rw [← ht] at h
 split at h
 ·rename_i hsz
  have hr := Option.some.inj h; subst hr; have hz1 : (9223372036854775807 < t.size + 2) = False := eq_false (by omega); have hz2 : (t.size + 2 ≤ 9223372036854775807) = True := eq_true (by omega); have hI : ∀ W, _ := fun W => reply_lines.index a0 a1_0 (by omega) (by omega) W
  rw [← ht] at hI; have d1 : decide (a1_0 < 1) = false := decide_eq_false (by omega); have d2 : decide (12 < a1_0) = false := decide_eq_false (by omega); have d3_ : (a1_0 == 7) = false := beq_eq_false_iff_ne.2 hA.2.2.1; have d4_ : (a1_0 != 1) = true := bne_iff_ne.2 hA.2.2.2; clear h ht hsz hA; obtain ⟨n, hn⟩ : ∃ n, n = l1_1.length := ⟨_, rfl⟩; rw [← hn] at hc1_1 ⊢; have HN := Aside0.mk hn; clear hr1_1 hn hL; go_enter Tryd.func9, Tryd.ntmps9
  go_wp2_with (first | ((with_reducible refine gate_dst (N := 3) rfl ?_); (refine bE 3 #[.int .i64 a1_0, .slice A1_1 n c1_1, .int .u64 a1_2] 30 rfl rfl ?_; intro g3 hg3 w3 hbox hb; have B3 := Aside0.mk hbox; have G3 := Aside0.mk (show w.heap.size ≤ g3 by rw [hg3]; exact HB.out.size); replace HB := Aside0.mk (below_step HB.out hb); clear hg3 hbox hb; obtain ⟨hcz3, hfz3⟩ := d3 B3)))
  clear hcz3 hfz3; refine start_ (n := 7) (S := fun w' => w'.heap[g3]? = some (.cells #[.int .i64 a1_0, .slice A1_1 n c1_1, .int .u64 a1_2] 30 (0, 0))) (ds := []) #[false, false, false, false, false, false, false] (by kernel_rfl) rfl rfl B3.out (fun hHeld => ?_)
  refine pure_ (i := 0) (N := some 30) (v := .int .i64 a0) (a' := ?_) #[true, false, false, false, false, false, false] rfl rfl (by kernel_rfl) (fun _ _ _ h => h) (Or.inl ⟨by rfl, ?_⟩) ?_ ?_
  ·intro w'; first | (go_simp; done) | (go_simp; with_reducible rfl)
  rotate_left
  ·simp only [Act.put, sA, sB, sC, i64_w, i32_w]; rfl
  refine pure_ (i := 2) (N := some 32) (v := .pointer (some ⟨g3, 0, none⟩)) (a' := ?_) #[true, false, true, false, false, false, false] rfl rfl (by kernel_rfl) (fun _ _ _ h => h) (Or.inl ⟨by rfl, ?_⟩) ?_ ?_
  ·intro w'; first | (go_simp; done) | (go_simp; with_reducible rfl)
  rotate_left
  ·simp only [Act.put, sA, sB, sC, i64_w, i32_w]; rfl
  refine take_ (i := 3) (N := some 33) (v := .int .i64 a1_0) (a' := ?_) #[true, false, true, true, false, false, false] rfl rfl (by kernel_rfl) (fun _ _ _ h => h) (Or.inl ⟨by rfl, ?_⟩) hHeld ?_ ?_
  ·intro w' hHw; obtain ⟨hcx_, hfx_⟩ := d3 (Aside0.mk hHw); first | (go_simp; done) | (go_simp; with_reducible rfl)
  rotate_left
  ·simp only [Act.put, sA, sB, sC, i64_w, i32_w]; rfl
  refine one_ (i := 1) (N := some 31) #[true, true, true, true, false, false, false] rfl rfl (by kernel_rfl) (by decide) (fun K hK => ?_)
  refine goes_ Tryd.func22 (by kernel_rfl) rfl #[.int .i64 a0] (by rfl) rfl rfl (by (try simp only [List.map_toArray, List.map_cons, List.map_nil]); first | done | rfl) ?_
  refine (reply_lines.calls a0 _).mono ?_
  rintro e w5 ⟨rfl, hb⟩; replace HB := Aside0.mk (below_step (eD HB.out) hb); have hS := blk_below hHeld hb; clear hb hHeld
  refine ⟨_, rfl, ?_⟩
  refine hK.out _ _ hS (fun hHeld => ?_)
  clear hK K; refine norm_ (a' := ?_) ?_ ?_
  rotate_left
  ·show Act.put _ (some 31) _ = _; simp only [Act.put, sA, sB, sC, i64_w, i32_w]; rfl
  refine pure_ (i := 4) (N := some 34) (v := .string t) (a' := ?_) #[true, true, true, true, true, false, false] rfl rfl (by kernel_rfl) (fun _ _ _ h => h) (Or.inl ⟨by rfl, ?_⟩) ?_ ?_
  ·intro w'; first | (go_simp; done) | (go_simp; with_reducible rfl)
  rotate_left
  ·simp only [Act.put, sA, sB, sC, i64_w, i32_w]; rfl
  refine pure_ (i := 5) (N := some 35) (v := .string (t ++ (⟨#[13, 10]⟩ : ByteArray))) (a' := ?_) #[true, true, true, true, true, true, false] rfl rfl (by kernel_rfl) (fun _ _ _ h => h) (Or.inl ⟨by rfl, ?_⟩) ?_ ?_
  ·intro w'; first | (go_simp; done) | (go_simp; with_reducible rfl)
  rotate_left
  ·simp only [Act.put, sA, sB, sC, i64_w, i32_w]; rfl
  refine pure_ (i := 6) (N := some 4) (v := .string (t ++ (⟨#[13, 10]⟩ : ByteArray))) (a' := ?_) #[true, true, true, true, true, true, true] rfl rfl (by kernel_rfl) (fun _ _ _ h => h) (Or.inl ⟨by rfl, ?_⟩) ?_ ?_
  ·intro w'; first | (go_simp; done) | (go_simp; with_reducible rfl)
  rotate_left
  ·simp only [Act.put, sA, sB, sC, i64_w, i32_w]; rfl
  refine done_ (by kernel_rfl) ?_
  go_wp2; go_ret
  exact ⟨rfl, HB.out⟩
 ·cases h
set_option maxHeartbeats 4000000 in
set_option maxRecDepth 100000 in
theorem reply_Text.calls4 (a0 a1_0 : Int) (A1_1 : Option Addr) (c1_1 : Nat) (l1_1 : List S60) (a1_2 : Int) (r : ByteArray) (w : World) (hr1_1 : Kd.C k60 w A1_1 l1_1.length l1_1) (hc1_1 : l1_1.length ≤ c1_1) (hA : a1_0 = 1) (h : reply_Text.f a0 a1_0 l1_1 a1_2 = some r) (hL : LdT w) :
  Calls Tryd.prog 9 #[.int .i64 a0, .agg #[.int .i64 a1_0, .slice A1_1 l1_1.length c1_1, .int .u64 a1_2]] w fun e w' => e = .returned (.string r) ∧ Below w.heap.size w w' := by
 have HL := Aside0.mk hL; have HR := Aside0.mk hr1_1; have HB := Aside0.mk (Below.refl w.heap.size w); unfold reply_Text.f at h; subst hA; rw [if_neg (by decide), if_neg (by decide), if_neg (by decide), if_pos rfl] at h; have HG := Aside0.mk h; clear h; obtain ⟨n, hn⟩ : ∃ n, n = l1_1.length := ⟨_, rfl⟩; rw [← hn] at hc1_1 ⊢; have HN := Aside0.mk hn; clear hr1_1 hn hL; go_enter Tryd.func9, Tryd.ntmps9
 go_wp2_with (first | ((with_reducible refine gate_dst (N := 3) rfl ?_); (refine bE 3 #[.int .i64 1, .slice A1_1 n c1_1, .int .u64 a1_2] 30 rfl rfl ?_; intro g3 hg3 w3 hbox hb; have B3 := Aside0.mk hbox; have G3 := Aside0.mk (show w.heap.size ≤ g3 by rw [hg3]; exact HB.out.size); replace HB := Aside0.mk (below_step HB.out hb); clear hg3 hbox hb; obtain ⟨hcz3, hfz3⟩ := d3 B3)) | ((with_reducible refine gate_dst (N := 5) rfl ?_); (refine bE 5 #[.pointer none, .slice none 0 0] 59 rfl rfl ?_; intro gb hgb w4 hbox hb; have HI := Aside0.mk (show Lib.IsBuilder 59 5 w.heap.size gb (Lib.byteCells (⟨#[]⟩ : ByteArray).data.toList) w4 from Or.inl ⟨by rw [hgb]; exact HB.out.size, .slice none 0 0, hbox, own_nil _ _ _ _, by simp [Value.ownBlock]⟩); replace B3 := Aside0.mk (blk_below B3.out hb); replace HB := Aside0.mk (below_step HB.out hb); clear hgb hbox hb; obtain ⟨hcy3, hfy3⟩ := d3 B3)))
 go_loopg [39] n (fun q v39 wi => ∃ (i : Nat) (acc : ByteArray), v39 = .int .i64 (i : Int) ∧ Aside0 (q + i = n ∧ i ≤ n) ∧ Aside0 (reply_Text.go a0 (l1_1.drop i) acc = some r) ∧ Aside0 (Lib.IsBuilder 59 5 w.heap.size gb (Lib.byteCells acc.data.toList) wi) ∧ Aside0 (Below w.heap.size w wi))
 case atStart => exact ⟨0, ⟨#[]⟩, rfl, ⟨by omega⟩, ⟨HG.out⟩, HI, HB⟩
 case round =>
  clear HI HB HG hcz3 hfz3 hcy3 hfy3; obtain ⟨i, acc, rfl, HQ, HG, HI, HB⟩ := hrel
  by_cases hi : i < n
  ·obtain ⟨qo, hqo⟩ : ∃ qo, gk = qo + 1 := ⟨n - i - 1, by have := HQ.out; omega⟩; subst hqo; have HWI := Aside0.mk (show wrap64 ((i : Int) + 1) = ((i + 1 : Nat) : Int) by have := HN.out; have := HR.out.2.1; unfold wrap64; omega); have hd1 : decide ((i : Int) < (n : Int)) = true := decide_eq_true (by omega); have hd2 : decide (i < n) = true := decide_eq_true hi; have hi0 : (0 ≤ (i : Int)) = True := eq_true (by omega); have hi1 : ((i : Int) < (n : Int)) = True := eq_true (by omega); have hi2 : (i < n) = True := eq_true hi; have hil : i < l1_1.length := by have := HN.out; omega
   have hdr : l1_1.drop i = l1_1.getD i z60 :: l1_1.drop (i + 1) := by
    rw [List.drop_eq_getElem_cons hil, List.getD_eq_getElem?_getD, List.getElem?_eq_getElem hil]
    rfl
   obtain ⟨ad, rfl, hE⟩ := at_hit (by have := HR.out; rwa [← HN.out] at this) i hi; have hg := HG.out; rw [hdr] at hg; obtain ⟨x, hx⟩ : ∃ x, x = l1_1.getD i z60 := ⟨_, rfl⟩; rw [← hx] at hE hg; have HE := Aside0.mk hE; simp only [reply_Text.go] at hg; obtain ⟨p, hp, hg⟩ := Option.bind_eq_some_iff.1 hg
   split at hg
   ·rename_i hap
    have HG2 := Aside0.mk hg; unfold reply_Text.piece at hp; obtain ⟨fl, hfl, hp⟩ := Option.bind_eq_some_iff.1 hp; obtain ⟨sz, hsz, hp⟩ := Option.bind_eq_some_iff.1 hp; obtain ⟨sh, hsh, hp⟩ := Option.bind_eq_some_iff.1 hp; obtain ⟨j, hj, hp⟩ := Option.bind_eq_some_iff.1 hp
    split at hp
    ·rename_i hjs
     have hpe := Option.some.inj hp; subst hpe; have HFL := Aside0.mk hfl; have HSZ := Aside0.mk hsz; have HSH := Aside0.mk hsh; have HLN := Aside0.mk (show (Lib.byteCells acc.data.toList).length + (((j ++ (⟨#[13, 10]⟩ : ByteArray)) ++ x.f2) ++ (⟨#[13, 10]⟩ : ByteArray)).size ≤ 140737488355328 by rw [bld_len]; exact hap); have HZ := Aside0.mk hjs; clear hp hap hjs hfl hsz hsh hg hx hdr hE hil hi HG; obtain ⟨e0, e1, e2, e3⟩ := HE.out _ HB.out
     go_wp2_with (first | ((with_reducible refine gate_dst (N := 7) rfl ?_); (refine bE 7 #[.string ⟨#[]⟩, .int .u32 0, .string ⟨#[]⟩, .int .u64 0] 60 rfl rfl ?_; intro gx hgx wx hbox hb; have BX := Aside0.mk hbox; have GX := Aside0.mk (show w.heap.size ≤ gx by rw [hgx]; exact HB.out.size); replace HI := Aside0.mk (bld_below HI.out hb); replace HB := Aside0.mk (below_step HB.out hb); clear hgx hbox hb; obtain ⟨hczx, hfzx⟩ := d4 BX)))
     obtain ⟨w8, hw8⟩ : ∃ w8, w8 = ((((wx.setCell ⟨gx, 0, none⟩ (.string x.f0)).setCell ⟨gx, 1, none⟩ (.int .u32 x.f1)).setCell ⟨gx, 2, none⟩ (.string x.f2)).setCell ⟨gx, 3, none⟩ (.int .u64 x.f3)) := ⟨_, rfl⟩; have HI8 := Aside0.mk (show Lib.IsBuilder 59 5 w.heap.size gb (Lib.byteCells acc.data.toList) w8 by rw [hw8]; exact bld_keep (g := gx) HI.out BX.out (by decide) (by decide) (by with_reducible repeat (first | exact KeepBut.refl _ _ _ | refine KeepBut.set_ ?_ _ _))); have HB8 := Aside0.mk (show Below w.heap.size w w8 by rw [hw8]; exact bH HB.out); have BX8 := Aside0.mk (show w8.heap[gx]? = some (.cells #[.string x.f0, .int .u32 x.f1, .string x.f2, .int .u64 x.f3] 60 (0, 0)) by rw [hw8]; exact bV BX.out); rw [← hw8]; clear hw8 hczx hfzx e0 e1 e2 e3 HI HB BX
     rename Aside0 (Lib.IsBuilder _ _ _ _ _ _) => HI
     rename Aside0 (Below _ _ _) => HB
     refine start_ (n := 13) (S := fun w' => w'.heap[gx]? = some (.cells #[.string x.f0, .int .u32 x.f1, .string x.f2, .int .u64 x.f3] 60 (0, 0))) (ds := []) #[false, false, false, false, false, false, false, false, false, false, false, false, false] (by kernel_rfl) rfl rfl BX8.out (fun hHeld => ?_)
     refine pure_ (i := 0) (N := some 43) (v := .pointer (some ⟨gx, 0, none⟩)) (a' := ?_) #[true, false, false, false, false, false, false, false, false, false, false, false, false] rfl rfl (by kernel_rfl) (fun _ _ _ h => h) (Or.inl ⟨by rfl, ?_⟩) ?_ ?_
     ·intro w'; first | (go_simp; done) | (go_simp; with_reducible rfl)
     rotate_left
     ·simp only [Act.put, sA, sB, sC, i64_w, i32_w]; rfl
     refine take_ (i := 1) (N := some 44) (v := .string x.f0) (a' := ?_) #[true, true, false, false, false, false, false, false, false, false, false, false, false] rfl rfl (by kernel_rfl) (fun _ _ _ h => h) (Or.inl ⟨by rfl, ?_⟩) hHeld ?_ ?_
     ·intro w' hHw; obtain ⟨hcx_, hfx_⟩ := d4 (Aside0.mk hHw); first | (go_simp; done) | (go_simp; with_reducible rfl)
     rotate_left
     ·simp only [Act.put, sA, sB, sC, i64_w, i32_w]; rfl
     refine pure_ (i := 2) (N := some 45) (v := .pointer (some ⟨gx, 1, none⟩)) (a' := ?_) #[true, true, true, false, false, false, false, false, false, false, false, false, false] rfl rfl (by kernel_rfl) (fun _ _ _ h => h) (Or.inl ⟨by rfl, ?_⟩) ?_ ?_
     ·intro w'; first | (go_simp; done) | (go_simp; with_reducible rfl)
     rotate_left
     ·simp only [Act.put, sA, sB, sC, i64_w, i32_w]; rfl
     refine take_ (i := 3) (N := some 46) (v := .int .u32 x.f1) (a' := ?_) #[true, true, true, true, false, false, false, false, false, false, false, false, false] rfl rfl (by kernel_rfl) (fun _ _ _ h => h) (Or.inl ⟨by rfl, ?_⟩) hHeld ?_ ?_
     ·intro w' hHw; obtain ⟨hcx_, hfx_⟩ := d4 (Aside0.mk hHw); first | (go_simp; done) | (go_simp; with_reducible rfl)
     rotate_left
     ·simp only [Act.put, sA, sB, sC, i64_w, i32_w]; rfl
     refine pure_ (i := 4) (N := some 47) (v := .int .u64 (IntKind.u64.wrap x.f1)) (a' := ?_) #[true, true, true, true, true, false, false, false, false, false, false, false, false] rfl rfl (by kernel_rfl) (fun _ _ _ h => h) (Or.inl ⟨by rfl, ?_⟩) ?_ ?_
     ·intro w'; first | (go_simp; done) | (go_simp; with_reducible rfl)
     rotate_left
     ·simp only [Act.put, sA, sB, sC, i64_w, i32_w]; rfl
     refine pure_ (i := 6) (N := some 49) (v := .pointer (some ⟨gx, 2, none⟩)) (a' := ?_) #[true, true, true, true, true, false, true, false, false, false, false, false, false] rfl rfl (by kernel_rfl) (fun _ _ _ h => h) (Or.inl ⟨by rfl, ?_⟩) ?_ ?_
     ·intro w'; first | (go_simp; done) | (go_simp; with_reducible rfl)
     rotate_left
     ·simp only [Act.put, sA, sB, sC, i64_w, i32_w]; rfl
     refine take_ (i := 7) (N := some 50) (v := .string x.f2) (a' := ?_) #[true, true, true, true, true, false, true, true, false, false, false, false, false] rfl rfl (by kernel_rfl) (fun _ _ _ h => h) (Or.inl ⟨by rfl, ?_⟩) hHeld ?_ ?_
     ·intro w' hHw; obtain ⟨hcx_, hfx_⟩ := d4 (Aside0.mk hHw); first | (go_simp; done) | (go_simp; with_reducible rfl)
     rotate_left
     ·simp only [Act.put, sA, sB, sC, i64_w, i32_w]; rfl
     refine pure_ (i := 8) (N := some 51) (v := .int .i64 (x.f2.size : Int)) (a' := ?_) #[true, true, true, true, true, false, true, true, true, false, false, false, false] rfl rfl (by kernel_rfl) (fun _ _ _ h => h) (Or.inl ⟨by rfl, ?_⟩) ?_ ?_
     ·intro w'; first | (go_simp; done) | (go_simp; with_reducible rfl)
     rotate_left
     ·simp only [Act.put, sA, sB, sC, i64_w, i32_w]; rfl
     refine pure_ (i := 9) (N := some 52) (v := .int .u64 (IntKind.u64.wrap (x.f2.size : Int))) (a' := ?_) #[true, true, true, true, true, false, true, true, true, true, false, false, false] rfl rfl (by kernel_rfl) (fun _ _ _ h => h) (Or.inl ⟨by rfl, ?_⟩) ?_ ?_
     ·intro w'; first | (go_simp; done) | (go_simp; with_reducible rfl)
     rotate_left
     ·simp only [Act.put, sA, sB, sC, i64_w, i32_w]; rfl
     refine one_ (i := 5) (N := some 48) #[true, true, true, true, true, true, true, true, true, true, false, false, false] rfl rfl (by kernel_rfl) (by decide) (fun K hK => ?_)
     refine goes_ Tryd.func21 (by kernel_rfl) rfl #[.int .u64 (IntKind.u64.wrap x.f1)] (by rfl) rfl rfl (by (try simp only [List.map_toArray, List.map_cons, List.map_nil]); first | done | rfl) ?_
     refine (digits_Text.calls (IntKind.u64.wrap x.f1) fl _ HFL.out (HL.out.on (eD HB.out))).mono ?_
     rintro e w5 ⟨rfl, hb⟩; replace HI := Aside0.mk (bld_below (W := w8.drew) HI.out hb); replace HB := Aside0.mk (below_step (eD HB.out) hb); have hS := blk_below hHeld hb; clear hb hHeld
     refine ⟨_, rfl, ?_⟩
     refine hK.out _ _ hS (fun hHeld => ?_)
     clear hK K; refine norm_ (a' := ?_) ?_ ?_
     rotate_left
     ·show Act.put _ (some 48) _ = _; simp only [Act.put, sA, sB, sC, i64_w, i32_w]; rfl
     refine one_ (i := 10) (N := some 53) #[true, true, true, true, true, true, true, true, true, true, true, false, false] rfl rfl (by kernel_rfl) (by decide) (fun K hK => ?_)
     refine goes_ Tryd.func21 (by kernel_rfl) rfl #[.int .u64 (IntKind.u64.wrap (x.f2.size : Int))] (by rfl) rfl rfl (by (try simp only [List.map_toArray, List.map_cons, List.map_nil]); first | done | rfl) ?_
     refine (digits_Text.calls (IntKind.u64.wrap (x.f2.size : Int)) sz _ HSZ.out (HL.out.on HB.out)).mono ?_
     rintro e w6 ⟨rfl, hb⟩; replace HI := Aside0.mk (bld_below (W := w5) HI.out hb); replace HB := Aside0.mk (below_step (HB.out) hb); have hS := blk_below hHeld hb; clear hb hHeld
     refine ⟨_, rfl, ?_⟩
     refine hK.out _ _ hS (fun hHeld => ?_)
     clear hK K; refine norm_ (a' := ?_) ?_ ?_
     rotate_left
     ·show Act.put _ (some 53) _ = _; simp only [Act.put, sA, sB, sC, i64_w, i32_w]; rfl
     refine one_ (i := 11) (N := some 54) #[true, true, true, true, true, true, true, true, true, true, true, true, false] rfl rfl (by kernel_rfl) (by decide) (fun K hK => ?_)
     refine Kd.R_lit_step Kd.string (w0 := w) w.heap.size 9 (by rfl) rfl (xs := [(⟨#[86, 65, 76, 85, 69]⟩ : ByteArray), x.f0, fl, sz]) (inner := [.string (⟨#[86, 65, 76, 85, 69]⟩ : ByteArray), .string x.f0, .string fl, .string sz]) (ok := fun _ => True) (okp := fun _ => True) ?hr ?hp (fun _ hk => hk) trivial HB.out HB.out.size (by simp) ?_
     case hr => first | (go_simp; done) | (go_simp; rfl)
     case hp => exact strs_reps _ _ _ [(⟨#[86, 65, 76, 85, 69]⟩ : ByteArray), x.f0, fl, sz]
     intro v7 w7 ho hb hg_ hnew_
     have hb6 : Below w6.heap.size w6 w7 := below_of_grown hg_; obtain ⟨A7, c7, rfl⟩ := Kd.R_slice ho; have HO := Aside0.mk ho; replace HI := Aside0.mk (bld_below (W := w6) HI.out hb6); replace HB := Aside0.mk hb; have hS := blk_below hHeld hb6; clear ho hb hg_ hnew_ hb6 hHeld
     refine hK.out _ _ hS (fun hHeld => ?_)
     clear hK K; refine norm_ (a' := ?_) ?_ ?_
     rotate_left
     ·show Act.put _ (some 54) _ = _; simp only [Act.put, sA, sB, sC, i64_w, i32_w]; rfl
     refine pure_ (i := 12) (N := some 8) (v := .slice A7 [(⟨#[86, 65, 76, 85, 69]⟩ : ByteArray), x.f0, fl, sz].length c7) (a' := ?_) #[true, true, true, true, true, true, true, true, true, true, true, true, true] rfl rfl (by kernel_rfl) (fun _ _ _ h => h) (Or.inl ⟨by rfl, ?_⟩) ?_ ?_
     ·intro w'; first | (go_simp; done) | (go_simp; with_reducible rfl)
     rotate_left
     ·simp only [Act.put, sA, sB, sC, i64_w, i32_w]; rfl
     refine done_ (by kernel_rfl) ?_
     replace BX8 := Aside0.mk hHeld; clear hHeld hS; cases sh with
     | false =>
      rw [if_neg (by decide)] at hj; have HJ := Aside0.mk hj; clear hj
      go_wp2_with (first | (go_at_call 20; ((with_reducible refine (verb_Shows.calls a0 false _ HSH.out).mono ?_); rintro e w' ⟨rfl, ⟨nd, rfl⟩⟩; have hb := eN (Below.refl w7.heap.size w7) nd; obtain ⟨wy, hwy⟩ : ∃ wy, wy = w7.drewN nd := ⟨_, rfl⟩; rw [← hwy] at hb ⊢; replace HI := Aside0.mk (bld_below (W := w7) HI.out hb); replace HO := Aside0.mk (Kd.R_below HO.out hb); replace BX8 := Aside0.mk (blk_below BX8.out hb); replace HB := Aside0.mk (below_step HB.out hb); clear hwy hb; obtain ⟨hcv, hfv⟩ := d4 BX8)))
      clear hcv hfv; have hz1 : (9223372036854775807 < j.size + 2) = False := eq_false (by have := HZ.out; omega); have hz2 : (9223372036854775807 < j.size + 2 + x.f2.size) = False := eq_false (by have := HZ.out; omega); have hz3 : (9223372036854775807 < j.size + 2 + x.f2.size + 2) = False := eq_false (by have := HZ.out; omega); have hz4 : (j.size + 2 ≤ 9223372036854775807) = True := eq_true (by have := HZ.out; omega); have hz5 : (j.size + 2 + x.f2.size ≤ 9223372036854775807) = True := eq_true (by have := HZ.out; omega); have hz6 : (j.size + 2 + x.f2.size + 2 ≤ 9223372036854775807) = True := eq_true (by have := HZ.out; omega); refine start_ (n := 8) (S := fun w' => w'.heap[gx]? = some (.cells #[.string x.f0, .int .u32 x.f1, .string x.f2, .int .u64 x.f3] 60 (0, 0))) (ds := [7]) #[false, false, false, false, false, false, false, false] (by kernel_rfl) rfl rfl BX8.out (fun hHeld => ?_)
      refine pure_ (i := 0) (N := some 63) (v := .slice A7 [(⟨#[86, 65, 76, 85, 69]⟩ : ByteArray), x.f0, fl, sz].length c7) (a' := ?_) #[true, false, false, false, false, false, false, false] rfl rfl (by kernel_rfl) (fun _ _ _ h => h) (Or.inl ⟨by rfl, ?_⟩) ?_ ?_
      ·intro w'; first | (go_simp; done) | (go_simp; with_reducible rfl)
      rotate_left
      ·simp only [Act.put, sA, sB, sC, i64_w, i32_w]; rfl
      refine pure_ (i := 3) (N := some 66) (v := .pointer (some ⟨gx, 2, none⟩)) (a' := ?_) #[true, false, false, true, false, false, false, false] rfl rfl (by kernel_rfl) (fun _ _ _ h => h) (Or.inl ⟨by rfl, ?_⟩) ?_ ?_
      ·intro w'; first | (go_simp; done) | (go_simp; with_reducible rfl)
      rotate_left
      ·simp only [Act.put, sA, sB, sC, i64_w, i32_w]; rfl
      refine take_ (i := 4) (N := some 67) (v := .string x.f2) (a' := ?_) #[true, false, false, true, true, false, false, false] rfl rfl (by kernel_rfl) (fun _ _ _ h => h) (Or.inl ⟨by rfl, ?_⟩) hHeld ?_ ?_
      ·intro w' hHw; obtain ⟨hcx_, hfx_⟩ := d4 (Aside0.mk hHw); first | (go_simp; done) | (go_simp; with_reducible rfl)
      rotate_left
      ·simp only [Act.put, sA, sB, sC, i64_w, i32_w]; rfl
      refine one_ (i := 1) (N := some 64) #[true, true, false, true, true, false, false, false] rfl rfl (by kernel_rfl) (by decide) (fun K hK => ?_)
      refine goes_ Tryd.func24 (by kernel_rfl) rfl #[.slice A7 [(⟨#[86, 65, 76, 85, 69]⟩ : ByteArray), x.f0, fl, sz].length c7, .string (⟨#[32]⟩ : ByteArray)] (by rfl) rfl rfl (by (try simp only [List.map_toArray, List.map_cons, List.map_nil]); first | done | rfl) ?_
      refine (strings_Join.calls A7 c7 [(⟨#[86, 65, 76, 85, 69]⟩ : ByteArray), x.f0, fl, sz] (⟨#[32]⟩ : ByteArray) j _ (Kd.R_reads' (Kd.R_drew HO.out)).2.2 (Kd.R_reads' HO.out).2.1 HJ.out).mono ?_
      rintro e w11 ⟨rfl, hb⟩; replace HI := Aside0.mk (bld_below (W := wy.drew) HI.out hb); replace HB := Aside0.mk (below_step (eD HB.out) hb); have hS := blk_below hHeld hb; clear hb hHeld
      refine ⟨_, rfl, ?_⟩
      refine hK.out _ _ hS (fun hHeld => ?_)
      clear hK K; refine norm_ (a' := ?_) ?_ ?_
      rotate_left
      ·show Act.put _ (some 64) _ = _; simp only [Act.put, sA, sB, sC, i64_w, i32_w]; rfl
      refine pure_ (i := 2) (N := some 65) (v := .string (j ++ (⟨#[13, 10]⟩ : ByteArray))) (a' := ?_) #[true, true, true, true, true, false, false, false] rfl rfl (by kernel_rfl) (fun _ _ _ h => h) (Or.inl ⟨by rfl, ?_⟩) ?_ ?_
      ·intro w'; first | (go_simp; done) | (go_simp; with_reducible rfl)
      rotate_left
      ·simp only [Act.put, sA, sB, sC, i64_w, i32_w]; rfl
      refine pure_ (i := 5) (N := some 68) (v := .string ((j ++ (⟨#[13, 10]⟩ : ByteArray)) ++ x.f2)) (a' := ?_) #[true, true, true, true, true, true, false, false] rfl rfl (by kernel_rfl) (fun _ _ _ h => h) (Or.inl ⟨by rfl, ?_⟩) ?_ ?_
      ·intro w'; first | (go_simp; done) | (go_simp; with_reducible rfl)
      rotate_left
      ·simp only [Act.put, sA, sB, sC, i64_w, i32_w]; rfl
      refine pure_ (i := 6) (N := some 69) (v := .string (((j ++ (⟨#[13, 10]⟩ : ByteArray)) ++ x.f2) ++ (⟨#[13, 10]⟩ : ByteArray))) (a' := ?_) #[true, true, true, true, true, true, true, false] rfl rfl (by kernel_rfl) (fun _ _ _ h => h) (Or.inl ⟨by rfl, ?_⟩) ?_ ?_
      ·intro w'; first | (go_simp; done) | (go_simp; with_reducible rfl)
      rotate_left
      ·simp only [Act.put, sA, sB, sC, i64_w, i32_w]; rfl
      refine last_ (i := 7) (N := some 70) #[true, true, true, true, true, true, true, true] rfl rfl (by kernel_rfl) (by decide) (fun K hK => ?_)
      refine goes_ Tryd.func23 (by kernel_rfl) rfl #[.pointer (some ⟨gb, 0, none⟩), .string (((j ++ (⟨#[13, 10]⟩ : ByteArray)) ++ x.f2) ++ (⟨#[13, 10]⟩ : ByteArray))] (by rfl) rfl rfl (by (try simp only [List.map_toArray, List.map_cons, List.map_nil]); first | done | rfl) ?_
      refine (bld_write w.heap.size gb _ (((j ++ (⟨#[13, 10]⟩ : ByteArray)) ++ x.f2) ++ (⟨#[13, 10]⟩ : ByteArray)) _ HI.out HLN.out HB.out.size).mono ?_
      rintro e w12 ⟨rfl, hI, hb⟩; rw [bld_cat] at hI; replace HB := Aside0.mk (HB.out.trans hb); replace HI := Aside0.mk hI; clear hI hb hHeld
      refine ⟨_, rfl, ?_⟩
      refine hK.out _ _ ?_
      clear hK K; refine done_ (by kernel_rfl) ?_
      go_wp2
      go_roundg qo
      case measure => omega
      case rel => exact ⟨i + 1, _, congrArg (Value.int .i64) HWI.out, ⟨by have := HQ.out; omega⟩, HG2, HI, HB⟩
     | true =>
      rw [if_pos rfl] at hj; obtain ⟨cs, hcs, hj⟩ := Option.bind_eq_some_iff.1 hj; have HCS := Aside0.mk hcs; have HJ := Aside0.mk hj; clear hj hcs
      go_wp2_with (first | (go_at_call 20; ((with_reducible refine (verb_Shows.calls a0 true _ HSH.out).mono ?_); rintro e w' ⟨rfl, ⟨nd, rfl⟩⟩; have hb := eN (Below.refl w7.heap.size w7) nd; obtain ⟨wy, hwy⟩ : ∃ wy, wy = w7.drewN nd := ⟨_, rfl⟩; rw [← hwy] at hb ⊢; replace HI := Aside0.mk (bld_below (W := w7) HI.out hb); replace HO := Aside0.mk (Kd.R_below HO.out hb); replace BX8 := Aside0.mk (blk_below BX8.out hb); replace HB := Aside0.mk (below_step HB.out hb); clear hwy hb; obtain ⟨hcv, hfv⟩ := d4 BX8)) | (go_at_call 21; ((with_reducible refine (digits_Text.calls x.f3 cs _ HCS.out (HL.out.on HB.out)).mono ?_); rintro e wv ⟨rfl, hb⟩; replace HI := Aside0.mk (bld_below (W := wy) HI.out hb); replace HO := Aside0.mk (Kd.R_below HO.out hb); replace BX8 := Aside0.mk (blk_below BX8.out hb); replace HB := Aside0.mk (below_step HB.out hb); clear hb)) | ((with_reducible refine gate_builtin (b := .append) (xs := #[.tmp 57, .tmp 61]) rfl ?_); at_builtin; (refine Kd.R_append Kd.string (w0 := w) w.heap.size rfl (.tmp 57) (.tmp 61) 61 9 (.string ⟨#[]⟩) 16 rfl Tryd.underlying61 info_str rfl (by decide) (by omega) (.slice A7 [(⟨#[86, 65, 76, 85, 69]⟩ : ByteArray), x.f0, fl, sz].length c7) [(⟨#[86, 65, 76, 85, 69]⟩ : ByteArray), x.f0, fl, sz] cs [.string cs] (fun _ => True) (fun _ => False) rfl (by first | (go_simp; done) | (go_simp; rfl)) rfl (fun _ hk => hk.elim) (fun _ _ => trivial) HO.out HB.out HB.out.size (by simp) ?_; intro v9 w9 hq1 hb1 hg1 hat1; obtain ⟨inner, ho⟩ := Kd.R_own HO.out; replace HI := Aside0.mk (bld_grown HI.out ho (by decide) (by decide) hg1); replace BX8 := Aside0.mk (blk_grown BX8.out hg1 (own_ne ho BX8.out (by decide))); replace HB := Aside0.mk hb1; obtain ⟨A9, c9, rfl⟩ := Kd.R_slice hq1; replace HO := Aside0.mk hq1; clear ho hq1 hb1 hg1 hat1)))
      clear hcv hfv; replace HO := Aside0.mk (show Kd.R Kd.string 9 w9 w.heap.size (fun _ => True) (.slice A9 [(⟨#[86, 65, 76, 85, 69]⟩ : ByteArray), x.f0, fl, sz, cs].length c9) [(⟨#[86, 65, 76, 85, 69]⟩ : ByteArray), x.f0, fl, sz, cs] from HO.out); obtain ⟨wz, hwz⟩ : ∃ wz, wz = w9 := ⟨_, rfl⟩; rw [← hwz] at HO HI HB BX8 ⊢; clear hwz; have hz1 : (9223372036854775807 < j.size + 2) = False := eq_false (by have := HZ.out; omega); have hz2 : (9223372036854775807 < j.size + 2 + x.f2.size) = False := eq_false (by have := HZ.out; omega); have hz3 : (9223372036854775807 < j.size + 2 + x.f2.size + 2) = False := eq_false (by have := HZ.out; omega); have hz4 : (j.size + 2 ≤ 9223372036854775807) = True := eq_true (by have := HZ.out; omega); have hz5 : (j.size + 2 + x.f2.size ≤ 9223372036854775807) = True := eq_true (by have := HZ.out; omega); have hz6 : (j.size + 2 + x.f2.size + 2 ≤ 9223372036854775807) = True := eq_true (by have := HZ.out; omega); refine start_ (n := 8) (S := fun w' => w'.heap[gx]? = some (.cells #[.string x.f0, .int .u32 x.f1, .string x.f2, .int .u64 x.f3] 60 (0, 0))) (ds := [7]) #[false, false, false, false, false, false, false, false] (by kernel_rfl) rfl rfl BX8.out (fun hHeld => ?_)
      refine pure_ (i := 0) (N := some 63) (v := .slice A9 [(⟨#[86, 65, 76, 85, 69]⟩ : ByteArray), x.f0, fl, sz, cs].length c9) (a' := ?_) #[true, false, false, false, false, false, false, false] rfl rfl (by kernel_rfl) (fun _ _ _ h => h) (Or.inl ⟨by rfl, ?_⟩) ?_ ?_
      ·intro w'; first | (go_simp; done) | (go_simp; with_reducible rfl)
      rotate_left
      ·simp only [Act.put, sA, sB, sC, i64_w, i32_w]; rfl
      refine pure_ (i := 3) (N := some 66) (v := .pointer (some ⟨gx, 2, none⟩)) (a' := ?_) #[true, false, false, true, false, false, false, false] rfl rfl (by kernel_rfl) (fun _ _ _ h => h) (Or.inl ⟨by rfl, ?_⟩) ?_ ?_
      ·intro w'; first | (go_simp; done) | (go_simp; with_reducible rfl)
      rotate_left
      ·simp only [Act.put, sA, sB, sC, i64_w, i32_w]; rfl
      refine take_ (i := 4) (N := some 67) (v := .string x.f2) (a' := ?_) #[true, false, false, true, true, false, false, false] rfl rfl (by kernel_rfl) (fun _ _ _ h => h) (Or.inl ⟨by rfl, ?_⟩) hHeld ?_ ?_
      ·intro w' hHw; obtain ⟨hcx_, hfx_⟩ := d4 (Aside0.mk hHw); first | (go_simp; done) | (go_simp; with_reducible rfl)
      rotate_left
      ·simp only [Act.put, sA, sB, sC, i64_w, i32_w]; rfl
      refine one_ (i := 1) (N := some 64) #[true, true, false, true, true, false, false, false] rfl rfl (by kernel_rfl) (by decide) (fun K hK => ?_)
      refine goes_ Tryd.func24 (by kernel_rfl) rfl #[.slice A9 [(⟨#[86, 65, 76, 85, 69]⟩ : ByteArray), x.f0, fl, sz, cs].length c9, .string (⟨#[32]⟩ : ByteArray)] (by rfl) rfl rfl (by (try simp only [List.map_toArray, List.map_cons, List.map_nil]); first | done | rfl) ?_
      refine (strings_Join.calls A9 c9 [(⟨#[86, 65, 76, 85, 69]⟩ : ByteArray), x.f0, fl, sz, cs] (⟨#[32]⟩ : ByteArray) j _ (Kd.R_reads' (Kd.R_drew HO.out)).2.2 (Kd.R_reads' HO.out).2.1 HJ.out).mono ?_
      rintro e w11 ⟨rfl, hb⟩; replace HI := Aside0.mk (bld_below (W := wz.drew) HI.out hb); replace HB := Aside0.mk (below_step (eD HB.out) hb); have hS := blk_below hHeld hb; clear hb hHeld
      refine ⟨_, rfl, ?_⟩
      refine hK.out _ _ hS (fun hHeld => ?_)
      clear hK K; refine norm_ (a' := ?_) ?_ ?_
      rotate_left
      ·show Act.put _ (some 64) _ = _; simp only [Act.put, sA, sB, sC, i64_w, i32_w]; rfl
      refine pure_ (i := 2) (N := some 65) (v := .string (j ++ (⟨#[13, 10]⟩ : ByteArray))) (a' := ?_) #[true, true, true, true, true, false, false, false] rfl rfl (by kernel_rfl) (fun _ _ _ h => h) (Or.inl ⟨by rfl, ?_⟩) ?_ ?_
      ·intro w'; first | (go_simp; done) | (go_simp; with_reducible rfl)
      rotate_left
      ·simp only [Act.put, sA, sB, sC, i64_w, i32_w]; rfl
      refine pure_ (i := 5) (N := some 68) (v := .string ((j ++ (⟨#[13, 10]⟩ : ByteArray)) ++ x.f2)) (a' := ?_) #[true, true, true, true, true, true, false, false] rfl rfl (by kernel_rfl) (fun _ _ _ h => h) (Or.inl ⟨by rfl, ?_⟩) ?_ ?_
      ·intro w'; first | (go_simp; done) | (go_simp; with_reducible rfl)
      rotate_left
      ·simp only [Act.put, sA, sB, sC, i64_w, i32_w]; rfl
      refine pure_ (i := 6) (N := some 69) (v := .string (((j ++ (⟨#[13, 10]⟩ : ByteArray)) ++ x.f2) ++ (⟨#[13, 10]⟩ : ByteArray))) (a' := ?_) #[true, true, true, true, true, true, true, false] rfl rfl (by kernel_rfl) (fun _ _ _ h => h) (Or.inl ⟨by rfl, ?_⟩) ?_ ?_
      ·intro w'; first | (go_simp; done) | (go_simp; with_reducible rfl)
      rotate_left
      ·simp only [Act.put, sA, sB, sC, i64_w, i32_w]; rfl
      refine last_ (i := 7) (N := some 70) #[true, true, true, true, true, true, true, true] rfl rfl (by kernel_rfl) (by decide) (fun K hK => ?_)
      refine goes_ Tryd.func23 (by kernel_rfl) rfl #[.pointer (some ⟨gb, 0, none⟩), .string (((j ++ (⟨#[13, 10]⟩ : ByteArray)) ++ x.f2) ++ (⟨#[13, 10]⟩ : ByteArray))] (by rfl) rfl rfl (by (try simp only [List.map_toArray, List.map_cons, List.map_nil]); first | done | rfl) ?_
      refine (bld_write w.heap.size gb _ (((j ++ (⟨#[13, 10]⟩ : ByteArray)) ++ x.f2) ++ (⟨#[13, 10]⟩ : ByteArray)) _ HI.out HLN.out HB.out.size).mono ?_
      rintro e w12 ⟨rfl, hI, hb⟩; rw [bld_cat] at hI; replace HB := Aside0.mk (HB.out.trans hb); replace HI := Aside0.mk hI; clear hI hb hHeld
      refine ⟨_, rfl, ?_⟩
      refine hK.out _ _ ?_
      clear hK K; refine done_ (by kernel_rfl) ?_
      go_wp2
      go_roundg qo
      case measure => omega
      case rel => exact ⟨i + 1, _, congrArg (Value.int .i64) HWI.out, ⟨by have := HQ.out; omega⟩, HG2, HI, HB⟩
    ·cases hp
   ·cases hg
  ·have hd1 : decide ((i : Int) < (n : Int)) = false := decide_eq_false (by omega); have hd2 : decide (i < n) = false := decide_eq_false hi; have hg := HG.out; rw [List.drop_eq_nil_of_le (by have := HN.out; omega)] at hg; simp only [reply_Text.go] at hg
   split at hg
   ·rename_i hap
    have hr := Option.some.inj hg; subst hr; have HLN := Aside0.mk (show (Lib.byteCells acc.data.toList).length + (⟨#[69, 78, 68, 13, 10]⟩ : ByteArray).size ≤ 140737488355328 by rw [bld_len]; show acc.size + 5 ≤ _; omega); clear hg hap hi HG
    go_wp2_with (first | (go_at_call 23; ((with_reducible refine (bld_write w.heap.size gb _ (⟨#[69, 78, 68, 13, 10]⟩ : ByteArray) _ HI.out HLN.out HB.out.size).mono ?_); rintro e w12 ⟨rfl, hI, hb⟩; rw [bld_cat] at hI; replace HB := Aside0.mk (HB.out.trans hb); replace HI := Aside0.mk hI; clear hI hb)) | (go_at_call 25; ((with_reducible refine (Tryd.Builder_String_any w.heap.size gb _ _ HI.out HB.out.size).mono ?_); rintro e w13 ⟨rfl, hb⟩; replace HB := Aside0.mk (HB.out.trans hb); clear hb)))
    go_ret
    exact ⟨rfl, HB.out⟩
   ·cases hg
theorem reply_Text.calls (a0 a1_0 : Int) (A1_1 : Option Addr) (c1_1 : Nat) (l1_1 : List S60) (a1_2 : Int) (r : ByteArray) (w : World) (hr1_1 : Kd.C k60 w A1_1 l1_1.length l1_1) (hc1_1 : l1_1.length ≤ c1_1) (h : reply_Text.f a0 a1_0 l1_1 a1_2 = some r) (hL : LdT w) :
  Calls Tryd.prog 9 #[.int .i64 a0, .agg #[.int .i64 a1_0, .slice A1_1 l1_1.length c1_1, .int .u64 a1_2]] w fun e w' => e = .returned (.string r) ∧ Below w.heap.size w w' := by
 by_cases h1 : a1_0 < 1 ∨ 12 < a1_0
 ·exact reply_Text.calls1 a0 a1_0 A1_1 c1_1 l1_1 a1_2 r w hr1_1 hc1_1 h1 h hL
 ·by_cases h7 : a1_0 = 7
  ·exact reply_Text.calls2 a0 a1_0 A1_1 c1_1 l1_1 a1_2 r w hr1_1 hc1_1 h7 h hL
  ·by_cases h2 : a1_0 = 1
   ·exact reply_Text.calls4 a0 a1_0 A1_1 c1_1 l1_1 a1_2 r w hr1_1 hc1_1 h2 h hL
   ·exact reply_Text.calls3 a0 a1_0 A1_1 c1_1 l1_1 a1_2 r w hr1_1 hc1_1 ⟨by omega, by omega, h7, h2⟩ h hL

end Go.Proofs.YtdgpagocccabdaaDoor.P
