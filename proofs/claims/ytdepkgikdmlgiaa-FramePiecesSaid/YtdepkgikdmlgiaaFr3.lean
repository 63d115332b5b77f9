/- The document's reader (tallboyref29.Reader): what Feed and Next do. Conditions: the readings that each theorem names. -/
import Derived.Test.YtdepkgikdmlgiaaFr2
import Derived.Test.YtdepkgikdmlgiaaPx10
namespace Go.Proofs.Ytdepkgikdmlgiaa.P
open Go.RowKit Go.Proofs.YtdepkgikdmlgiaaW.PrintWords Go.Proofs.YtdepkgikdmlgiaaW.PrintLast Go.Proofs.YtdepkgikdmlgiaaW.PrintMore
set_option linter.unusedVariables false
set_option linter.unusedSimpArgs false
theorem nums_append (a b : List Int) : strOfNums a ++ strOfNums b = strOfNums (a ++ b) := by
  apply ByteArray.ext
  simp [strOfNums]
theorem nums_drop (a : List Int) (m : Nat) : (strOfNums a).extract m (strOfNums a).size = strOfNums (a.drop m) := by
  apply ByteArray.ext
  simp [strOfNums, ByteArray.size, List.map_drop]
  rw [List.take_of_length_le (by simp)]
theorem nums_size (a : List Int) : (strOfNums a).size = a.length := by simp [strOfNums, ByteArray.size]
/-- The document's reader at g. -/
def RRd (W : World) (g : Nat) (bs : List Int) (tl : Int) : Prop := W.heap[g]? = some (.cells #[.string (strOfNums bs), .int .i64 tl] 45 (0, 0))

set_option maxHeartbeats 4000000 in
set_option maxRecDepth 100000 in
theorem RRd.feed_told (w0 w : World) (g : Nat) (bs : List Int) (tl : Int) (B : Option Addr) (c : Nat) (b : List Int) (hI : RRd w g bs tl) (hB : Below w0.heap.size w0 w) (hg : w0.heap.size ≤ g) (hC : kB.C w B b.length b) (hn : bs.length ≤ 2097152) (hn2 : b.length ≤ 2097152) (ht : tl ≠ 0) :
    Calls Try.prog 20 #[.pointer (some ⟨g, 0, none⟩), .slice B b.length c] w fun e w' => e = .returned (.int .i64 5) ∧ RRd w' g bs tl ∧ Below w0.heap.size w0 w' ∧ KeepBut w w' g none := by
  have HI := Aside0.mk hI
  have HB := Aside0.mk hB
  have HG := Aside0.mk hg
  have hcz0 : w.cell? ⟨g, 0, none⟩ = some (.string (strOfNums bs)) := (blk_cell hI 0).trans rfl
  have hcz1 : w.cell? ⟨g, 1, none⟩ = some (.int .i64 tl) := (blk_cell hI 1).trans rfl
  have hfz0 : w.frozen? ⟨g, 0, none⟩ = false := blk_frozen hI 0
  have hcv := Kd.C_string (P := Try.prog) (w := w) (A := B) (c := c) Try.underlying46 Try.underlying5 Try.underlying9 hC
  have HC := Aside0.mk hC
  have hsz := nums_size bs
  have hsb := nums_size b
  have hw : wrap64 (2097152 - (bs.length : Int)) = 2097152 - (bs.length : Int) := by unfold wrap64; omega
  clear hI hB hg hC
  have ht0 : (tl != 0) = true := bne_iff_ne.2 ht
  clear ht
  go_enter Try.func20, Try.ntmps20
  go_wp2
  go_ret
  exact ⟨rfl, HI.out, HB.out, KeepBut.refl _ _ _⟩
set_option maxHeartbeats 4000000 in
set_option maxRecDepth 100000 in
theorem RRd.feed_full (w0 w : World) (g : Nat) (bs : List Int) (tl : Int) (B : Option Addr) (c : Nat) (b : List Int) (hI : RRd w g bs tl) (hB : Below w0.heap.size w0 w) (hg : w0.heap.size ≤ g) (hC : kB.C w B b.length b) (hn : bs.length ≤ 2097152) (hn2 : b.length ≤ 2097152) (ht : tl = 0) (hm : (b.length : Int) > 2097152 - (bs.length : Int)) :
    Calls Try.prog 20 #[.pointer (some ⟨g, 0, none⟩), .slice B b.length c] w fun e w' => e = .returned (.int .i64 2) ∧ RRd w' g bs tl ∧ Below w0.heap.size w0 w' ∧ KeepBut w w' g none := by
  have HI := Aside0.mk hI
  have HB := Aside0.mk hB
  have HG := Aside0.mk hg
  have hcz0 : w.cell? ⟨g, 0, none⟩ = some (.string (strOfNums bs)) := (blk_cell hI 0).trans rfl
  have hcz1 : w.cell? ⟨g, 1, none⟩ = some (.int .i64 tl) := (blk_cell hI 1).trans rfl
  have hfz0 : w.frozen? ⟨g, 0, none⟩ = false := blk_frozen hI 0
  have hcv := Kd.C_string (P := Try.prog) (w := w) (A := B) (c := c) Try.underlying46 Try.underlying5 Try.underlying9 hC
  have HC := Aside0.mk hC
  have hsz := nums_size bs
  have hsb := nums_size b
  have hw : wrap64 (2097152 - (bs.length : Int)) = 2097152 - (bs.length : Int) := by unfold wrap64; omega
  clear hI hB hg hC
  have ht0 : (tl != 0) = false := bne_eq_false_iff_eq.2 ht
  have hm0 : decide (2097152 - (bs.length : Int) < (b.length : Int)) = true := decide_eq_true (by omega)
  clear ht hm
  go_enter Try.func20, Try.ntmps20
  go_wp2
  go_ret
  exact ⟨rfl, HI.out, HB.out, KeepBut.refl _ _ _⟩
set_option maxHeartbeats 4000000 in
set_option maxRecDepth 100000 in
theorem RRd.feed_ok (w0 w : World) (g : Nat) (bs : List Int) (tl : Int) (B : Option Addr) (c : Nat) (b : List Int) (hI : RRd w g bs tl) (hB : Below w0.heap.size w0 w) (hg : w0.heap.size ≤ g) (hC : kB.C w B b.length b) (hn : bs.length ≤ 2097152) (hn2 : b.length ≤ 2097152) (ht : tl = 0) (hm : ¬ (b.length : Int) > 2097152 - (bs.length : Int)) :
    Calls Try.prog 20 #[.pointer (some ⟨g, 0, none⟩), .slice B b.length c] w fun e w' => e = .returned (.int .i64 0) ∧ RRd w' g (bs ++ b) tl ∧ Below w0.heap.size w0 w' ∧ KeepBut w w' g none := by
  have HI := Aside0.mk hI
  have HB := Aside0.mk hB
  have HG := Aside0.mk hg
  have hcz0 : w.cell? ⟨g, 0, none⟩ = some (.string (strOfNums bs)) := (blk_cell hI 0).trans rfl
  have hcz1 : w.cell? ⟨g, 1, none⟩ = some (.int .i64 tl) := (blk_cell hI 1).trans rfl
  have hfz0 : w.frozen? ⟨g, 0, none⟩ = false := blk_frozen hI 0
  have hcv := Kd.C_string (P := Try.prog) (w := w) (A := B) (c := c) Try.underlying46 Try.underlying5 Try.underlying9 hC
  have HC := Aside0.mk hC
  have hsz := nums_size bs
  have hsb := nums_size b
  have hw : wrap64 (2097152 - (bs.length : Int)) = 2097152 - (bs.length : Int) := by unfold wrap64; omega
  clear hI hB hg hC
  have ht0 : (tl != 0) = false := bne_eq_false_iff_eq.2 ht
  have hm0 : decide (2097152 - (bs.length : Int) < (b.length : Int)) = false := decide_eq_false (by omega)
  have hbig : (9223372036854775807 < (strOfNums bs).size + (strOfNums b).size) = False := eq_false (by omega)
  have hbig2 : (9223372036854775807 < bs.length + b.length) = False := eq_false (by omega)
  have HSZ := Aside0.mk hsz
  have HSB := Aside0.mk hsb
  clear ht hm
  go_enter Try.func20, Try.ntmps20
  go_wp2
  refine start_ (n := 11) (S := fun w' => w'.cell? ⟨g, 0, none⟩ = some (.string (strOfNums bs)) ∧ kB.C w' B b.length b) (ds := [10]) #[false, false, false, false, false, false, false, false, false, false, false] (by kernel_rfl) rfl rfl ⟨hcz0, HC.out⟩ (fun hHeld => ?_)
  refine pure_ (i := 0) (N := some 19) (v := .pointer (some ⟨g, 0, none⟩)) (a' := ?_) #[true, false, false, false, false, false, false, false, false, false, false] rfl rfl (by kernel_rfl) (fun _ _ _ h => h) (Or.inl ⟨by rfl, ?_⟩) ?_ ?_
  · intro w'; first | (go_simp; done) | (go_simp; with_reducible rfl)
  rotate_left
  · simp only [Act.put, sA, sB, sC, i64_w, i32_w]; rfl
  refine pure_ (i := 1) (N := some 20) (v := .pointer (some ⟨g, 0, none⟩)) (a' := ?_) #[true, true, false, false, false, false, false, false, false, false, false] rfl rfl (by kernel_rfl) (fun _ _ _ h => h) (Or.inl ⟨by rfl, ?_⟩) ?_ ?_
  · intro w'; first | (go_simp; done) | (go_simp; with_reducible rfl)
  rotate_left
  · simp only [Act.put, sA, sB, sC, i64_w, i32_w]; rfl
  refine pure_ (i := 2) (N := some 21) (v := .pointer (some ⟨g, 0, none⟩)) (a' := ?_) #[true, true, true, false, false, false, false, false, false, false, false] rfl rfl (by kernel_rfl) (fun _ _ _ h => h) (Or.inl ⟨by rfl, ?_⟩) ?_ ?_
  · intro w'; first | (go_simp; done) | (go_simp; with_reducible rfl)
  rotate_left
  · simp only [Act.put, sA, sB, sC, i64_w, i32_w]; rfl
  refine pure_ (i := 3) (N := some 22) (v := .pointer (some ⟨g, 0, none⟩)) (a' := ?_) #[true, true, true, true, false, false, false, false, false, false, false] rfl rfl (by kernel_rfl) (fun _ _ _ h => h) (Or.inl ⟨by rfl, ?_⟩) ?_ ?_
  · intro w'; first | (go_simp; done) | (go_simp; with_reducible rfl)
  rotate_left
  · simp only [Act.put, sA, sB, sC, i64_w, i32_w]; rfl
  refine take_ (i := 4) (N := some 23) (v := .string (strOfNums bs)) (a' := ?_) #[true, true, true, true, true, false, false, false, false, false, false] rfl rfl (by kernel_rfl) (fun _ _ _ h => h) (Or.inl ⟨by rfl, ?_⟩) hHeld ?_ ?_
  · intro w' hHw; (try obtain ⟨hHw, hHw1⟩ := hHw); first | (go_simp; done) | (go_simp; with_reducible rfl)
  rotate_left
  · simp only [Act.put, sA, sB, sC, i64_w, i32_w]; rfl
  refine pure_ (i := 5) (N := some 24) (v := .slice B b.length c) (a' := ?_) #[true, true, true, true, true, true, false, false, false, false, false] rfl rfl (by kernel_rfl) (fun _ _ _ h => h) (Or.inl ⟨by rfl, ?_⟩) ?_ ?_
  · intro w'; first | (go_simp; done) | (go_simp; with_reducible rfl)
  rotate_left
  · simp only [Act.put, sA, sB, sC, i64_w, i32_w]; rfl
  refine take_ (i := 6) (N := some 25) (v := .string (strOfNums b)) (a' := ?_) #[true, true, true, true, true, true, true, false, false, false, false] rfl rfl (by kernel_rfl) (fun _ _ _ h => h) (Or.inl ⟨by rfl, ?_⟩) hHeld ?_ ?_
  · intro w' hHw; have hcw := Kd.C_string (P := Try.prog) (w := w') (A := B) (c := c) Try.underlying46 Try.underlying5 Try.underlying9 hHw.2; first | (go_simp; done) | (go_simp; with_reducible rfl)
  rotate_left
  · simp only [Act.put, sA, sB, sC, i64_w, i32_w]; rfl
  refine pure_ (i := 7) (N := some 26) (v := .string (strOfNums bs ++ strOfNums b)) (a' := ?_) #[true, true, true, true, true, true, true, true, false, false, false] rfl rfl (by kernel_rfl) (fun _ _ _ h => h) (Or.inl ⟨by rfl, ?_⟩) ?_ ?_
  · intro w'; first | (go_simp; done) | (go_simp; with_reducible rfl)
  rotate_left
  · simp only [Act.put, sA, sB, sC, i64_w, i32_w]; rfl
  refine pure_ (i := 8) (N := some 27) (v := .pointer (some ⟨g, 0, none⟩)) (a' := ?_) #[true, true, true, true, true, true, true, true, true, false, false] rfl rfl (by kernel_rfl) (fun _ _ _ h => h) (Or.inl ⟨by rfl, ?_⟩) ?_ ?_
  · intro w'; first | (go_simp; done) | (go_simp; with_reducible rfl)
  rotate_left
  · simp only [Act.put, sA, sB, sC, i64_w, i32_w]; rfl
  refine pure_ (i := 9) (N := some 28) (v := .pointer (some ⟨g, 0, none⟩)) (a' := ?_) #[true, true, true, true, true, true, true, true, true, true, false] rfl rfl (by kernel_rfl) (fun _ _ _ h => h) (Or.inl ⟨by rfl, ?_⟩) ?_ ?_
  · intro w'; first | (go_simp; done) | (go_simp; with_reducible rfl)
  rotate_left
  · simp only [Act.put, sA, sB, sC, i64_w, i32_w]; rfl
  refine last_ (i := 10) (N := none) #[true, true, true, true, true, true, true, true, true, true, true] rfl rfl (by kernel_rfl) (by decide) (fun K hK => ?_)
  refine skip_ (w1 := w.drew.setCell ⟨g, 0, none⟩ (.string (strOfNums bs ++ strOfNums b))) (by rfl) rfl ?_ ?_
  · first | (go_simp; done) | (go_simp; rfl)
  refine hK.out _ _ ?_
  clear hK K
  refine done_ (by kernel_rfl) ?_
  go_wp2
  go_ret
  refine ⟨rfl, ?_, below_set (below_drew1 HB.out) HG.out, KeepBut.set_ (keep_self w g) _ _⟩
  rw [nums_append]
  have h := blk_set (w := w.drew) (show w.drew.heap[g]? = _ from HI.out) 0 (.string (strOfNums (bs ++ b)))
  simpa [RRd] using h
end Go.Proofs.Ytdepkgikdmlgiaa.P
