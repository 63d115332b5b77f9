/- Lean functions for the Go functions that the laws of this seat use, and the proofs that the Go code computes them; conditions: the readings that each theorem names. Written by a program. -/
import Derived.Test.YtdgpagocccabdaaDoorPx0
import Derived.Test.YtdgpagocccabdaaDoorShort
import Derived.Test.YtdgpagocccabdaaDoorLaws
import Derived.Laws.Tables
namespace Go.Proofs.YtdgpagocccabdaaDoor.P
open Go.RowKit Go.Proofs.YtdgpagocccabdaaDoorW.PrintWords Go.Proofs.YtdgpagocccabdaaDoorW.PrintLast Go.Proofs.YtdgpagocccabdaaDoorW.PrintMore
set_option linter.unusedVariables false
set_option linter.unusedSimpArgs false

-- HAND
-- FN tallboy/reply.lines
-- BARE 1
-- FAMS reply
-- IMPORT Derived.Test.YtdgpagocccabdaaDoorLaws
-- IMPORT Derived.Test.YtdgpagocccabdaaDoorShort
-- IMPORT Derived.Laws.Tables
/-! ### reply.lines: an array of texts -/
def reply_lines.l1 : List ByteArray := [⟨#[]⟩, ⟨#[]⟩, ⟨#[83, 84, 79, 82, 69, 68]⟩, ⟨#[78, 79, 84, 95, 83, 84, 79, 82, 69, 68]⟩, ⟨#[69, 88, 73, 83, 84, 83]⟩, ⟨#[78, 79, 84, 95, 70, 79, 85, 78, 68]⟩, ⟨#[68, 69, 76, 69, 84, 69, 68]⟩, ⟨#[]⟩, ⟨#[67, 76, 73, 69, 78, 84, 95, 69, 82, 82, 79, 82, 32, 99, 97, 110, 110, 111, 116, 32, 105, 110, 99, 114, 101, 109, 101, 110, 116, 32, 111, 114, 32, 100, 101, 99, 114, 101, 109, 101, 110, 116, 32, 110, 111, 110, 45, 110, 117, 109, 101, 114, 105, 99, 32, 118, 97, 108, 117, 101]⟩, ⟨#[84, 79, 85, 67, 72, 69, 68]⟩, ⟨#[79, 75]⟩, ⟨#[83, 69, 82, 86, 69, 82, 95, 69, 82, 82, 79, 82, 32, 111, 117, 116, 32, 111, 102, 32, 109, 101, 109, 111, 114, 121, 32, 115, 116, 111, 114, 105, 110, 103, 32, 111, 98, 106, 101, 99, 116]⟩, ⟨#[83, 69, 82, 86, 69, 82, 95, 69, 82, 82, 79, 82, 32, 111, 98, 106, 101, 99, 116, 32, 116, 111, 111, 32, 108, 97, 114, 103, 101, 32, 102, 111, 114, 32, 99, 97, 99, 104, 101]⟩]
def reply_lines.l2 : List ByteArray := [⟨#[]⟩, ⟨#[]⟩, ⟨#[83, 84, 79, 82, 69, 68]⟩, ⟨#[78, 79, 84, 95, 83, 84, 79, 82, 69, 68]⟩, ⟨#[69, 88, 73, 83, 84, 83]⟩, ⟨#[78, 79, 84, 95, 70, 79, 85, 78, 68]⟩, ⟨#[68, 69, 76, 69, 84, 69, 68]⟩, ⟨#[]⟩, ⟨#[67, 76, 73, 69, 78, 84, 95, 69, 82, 82, 79, 82, 32, 99, 97, 110, 110, 111, 116, 32, 105, 110, 99, 114, 101, 109, 101, 110, 116, 32, 111, 114, 32, 100, 101, 99, 114, 101, 109, 101, 110, 116, 32, 110, 111, 110, 45, 110, 117, 109, 101, 114, 105, 99, 32, 118, 97, 108, 117, 101]⟩, ⟨#[84, 79, 85, 67, 72, 69, 68]⟩, ⟨#[79, 75]⟩, ⟨#[83, 69, 82, 86, 69, 82, 95, 69, 82, 82, 79, 82, 32, 111, 117, 116, 32, 111, 102, 32, 109, 101, 109, 111, 114, 121, 32, 105, 110, 32, 105, 110, 99, 114]⟩, ⟨#[83, 69, 82, 86, 69, 82, 95, 69, 82, 82, 79, 82, 32, 111, 98, 106, 101, 99, 116, 32, 116, 111, 111, 32, 108, 97, 114, 103, 101, 32, 102, 111, 114, 32, 99, 97, 99, 104, 101]⟩]
def reply_lines.v1 : Array Value := #[.string ⟨#[]⟩, .string ⟨#[]⟩, .string ⟨#[83, 84, 79, 82, 69, 68]⟩, .string ⟨#[78, 79, 84, 95, 83, 84, 79, 82, 69, 68]⟩, .string ⟨#[69, 88, 73, 83, 84, 83]⟩, .string ⟨#[78, 79, 84, 95, 70, 79, 85, 78, 68]⟩, .string ⟨#[68, 69, 76, 69, 84, 69, 68]⟩, .string ⟨#[]⟩, .string ⟨#[67, 76, 73, 69, 78, 84, 95, 69, 82, 82, 79, 82, 32, 99, 97, 110, 110, 111, 116, 32, 105, 110, 99, 114, 101, 109, 101, 110, 116, 32, 111, 114, 32, 100, 101, 99, 114, 101, 109, 101, 110, 116, 32, 110, 111, 110, 45, 110, 117, 109, 101, 114, 105, 99, 32, 118, 97, 108, 117, 101]⟩, .string ⟨#[84, 79, 85, 67, 72, 69, 68]⟩, .string ⟨#[79, 75]⟩, .string ⟨#[83, 69, 82, 86, 69, 82, 95, 69, 82, 82, 79, 82, 32, 111, 117, 116, 32, 111, 102, 32, 109, 101, 109, 111, 114, 121, 32, 115, 116, 111, 114, 105, 110, 103, 32, 111, 98, 106, 101, 99, 116]⟩, .string ⟨#[83, 69, 82, 86, 69, 82, 95, 69, 82, 82, 79, 82, 32, 111, 98, 106, 101, 99, 116, 32, 116, 111, 111, 32, 108, 97, 114, 103, 101, 32, 102, 111, 114, 32, 99, 97, 99, 104, 101]⟩]
def reply_lines.v2 : Array Value := #[.string ⟨#[]⟩, .string ⟨#[]⟩, .string ⟨#[83, 84, 79, 82, 69, 68]⟩, .string ⟨#[78, 79, 84, 95, 83, 84, 79, 82, 69, 68]⟩, .string ⟨#[69, 88, 73, 83, 84, 83]⟩, .string ⟨#[78, 79, 84, 95, 70, 79, 85, 78, 68]⟩, .string ⟨#[68, 69, 76, 69, 84, 69, 68]⟩, .string ⟨#[]⟩, .string ⟨#[67, 76, 73, 69, 78, 84, 95, 69, 82, 82, 79, 82, 32, 99, 97, 110, 110, 111, 116, 32, 105, 110, 99, 114, 101, 109, 101, 110, 116, 32, 111, 114, 32, 100, 101, 99, 114, 101, 109, 101, 110, 116, 32, 110, 111, 110, 45, 110, 117, 109, 101, 114, 105, 99, 32, 118, 97, 108, 117, 101]⟩, .string ⟨#[84, 79, 85, 67, 72, 69, 68]⟩, .string ⟨#[79, 75]⟩, .string ⟨#[83, 69, 82, 86, 69, 82, 95, 69, 82, 82, 79, 82, 32, 111, 117, 116, 32, 111, 102, 32, 109, 101, 109, 111, 114, 121, 32, 105, 110, 32, 105, 110, 99, 114]⟩, .string ⟨#[83, 69, 82, 86, 69, 82, 95, 69, 82, 82, 79, 82, 32, 111, 98, 106, 101, 99, 116, 32, 116, 111, 111, 32, 108, 97, 114, 103, 101, 32, 102, 111, 114, 32, 99, 97, 99, 104, 101]⟩]
def reply_lines.l (k : Int) : List ByteArray := if k = 12 ∨ k = 13 then reply_lines.l2 else reply_lines.l1
def reply_lines.v (k : Int) : Array Value := if k = 12 ∨ k = 13 then reply_lines.v2 else reply_lines.v1
section
variable {P : Program} {ops : Array Oper} {rest : List Oper} {o : Oper} {a : Act} {Q : Exit → Act → World → Prop}
theorem gate_op {W : World} (op : Op) (h : o.op = op) (h2 : wpList P ops Q (o :: rest) a W) : wpList P ops Q (o :: rest) a W := h2
theorem below_setRow {B g : Nat} {w W : World} (h : Below B w W) (hg : B ≤ g) (cs : Array Value) : Below B w (W.setRow g cs) :=
 h.trans ⟨rfl, rfl, rfl, by simp [World.setRow], fun i hi => setRow_other W g i cs (by omega)⟩
end
theorem reply_lines.at1 (i : Int) (h0 : 0 ≤ i) (h1 : i < 13) : reply_lines.v1[i.toNat]? = some (.string (rdOf ByteArray.empty reply_lines.l1 i)) := by
 obtain ⟨n, rfl⟩ := Int.eq_ofNat_of_zero_le h0; rw [Int.toNat_natCast]; have hn : n < 13 := by omega
 unfold rdOf; rw [Int.toNat_natCast]
 match n, hn with
 | 0, _ => rfl
 | 1, _ => rfl
 | 2, _ => rfl
 | 3, _ => rfl
 | 4, _ => rfl
 | 5, _ => rfl
 | 6, _ => rfl
 | 7, _ => rfl
 | 8, _ => rfl
 | 9, _ => rfl
 | 10, _ => rfl
 | 11, _ => rfl
 | 12, _ => rfl
theorem reply_lines.at2 (i : Int) (h0 : 0 ≤ i) (h1 : i < 13) : reply_lines.v2[i.toNat]? = some (.string (rdOf ByteArray.empty reply_lines.l2 i)) := by
 obtain ⟨n, rfl⟩ := Int.eq_ofNat_of_zero_le h0; rw [Int.toNat_natCast]; have hn : n < 13 := by omega
 unfold rdOf; rw [Int.toNat_natCast]
 match n, hn with
 | 0, _ => rfl
 | 1, _ => rfl
 | 2, _ => rfl
 | 3, _ => rfl
 | 4, _ => rfl
 | 5, _ => rfl
 | 6, _ => rfl
 | 7, _ => rfl
 | 8, _ => rfl
 | 9, _ => rfl
 | 10, _ => rfl
 | 11, _ => rfl
 | 12, _ => rfl
theorem reply_lines.put : reply_lines.v1.setIfInBounds 11 (.string ⟨#[83, 69, 82, 86, 69, 82, 95, 69, 82, 82, 79, 82, 32, 111, 117, 116, 32, 111, 102, 32, 109, 101, 109, 111, 114, 121, 32, 105, 110, 32, 105, 110, 99, 114]⟩) = reply_lines.v2 := by kernel_rfl
set_option maxHeartbeats 4000000 in
set_option maxRecDepth 100000 in
theorem reply_lines.calls1 (k : Int) (w : World) (h : ¬ (k = 12 ∨ k = 13)) : Calls Tryd.prog 22 #[.int .i64 k] w fun e w' => e = .returned (.agg reply_lines.v1) ∧ Below w.heap.size w w' := by
 have HB := Aside0.mk (Below.refl w.heap.size w); have h1 : (k == 12) = false := beq_eq_false_iff_ne.2 (by omega); have h2 : (k == 13) = false := beq_eq_false_iff_ne.2 (by omega); clear h; go_enter Tryd.func22, Tryd.ntmps22
 go_wp2_with (first | ((with_reducible refine gate_dst (N := 2) rfl ?_); (refine bE 2 #[.string ⟨#[]⟩, .string ⟨#[]⟩, .string ⟨#[]⟩, .string ⟨#[]⟩, .string ⟨#[]⟩, .string ⟨#[]⟩, .string ⟨#[]⟩, .string ⟨#[]⟩, .string ⟨#[]⟩, .string ⟨#[]⟩, .string ⟨#[]⟩, .string ⟨#[]⟩, .string ⟨#[]⟩] 54 rfl rfl ?_; intro g2 hg2 w2 hbox hb; have B2 := Aside0.mk hbox; have G2 := Aside0.mk (show w.heap.size ≤ g2 by rw [hg2]; exact HB.out.size); replace HB := Aside0.mk (below_step HB.out hb); clear hg2 hbox hb)) | ((with_reducible refine gate_dst (N := 3) rfl ?_); (refine bE 3 #[.string ⟨#[]⟩, .string ⟨#[]⟩, .string ⟨#[]⟩, .string ⟨#[]⟩, .string ⟨#[]⟩, .string ⟨#[]⟩, .string ⟨#[]⟩, .string ⟨#[]⟩, .string ⟨#[]⟩, .string ⟨#[]⟩, .string ⟨#[]⟩, .string ⟨#[]⟩, .string ⟨#[]⟩] 54 rfl rfl ?_; intro g3 hg3 w3 hbox hb; have B3 := Aside0.mk hbox; have G3 := Aside0.mk (show w.heap.size ≤ g3 by rw [hg3]; exact HB.out.size); have N23 := Aside0.mk (show g2 ≠ g3 by rw [hg3]; exact Nat.ne_of_lt (blk_lt B2.out)); replace B2 := Aside0.mk (blk_below B2.out hb); replace HB := Aside0.mk (below_step HB.out hb); clear hg3 hbox hb)) | ((with_reducible refine gate_op (.store 54 (.tmp 3) (.tmp 4)) rfl ?_); (refine wpList_store_row rfl 54 (.tmp 3) (.tmp 4) rfl g3 reply_lines.v1 rfl rfl 54 _ B3.out (by kernel_rfl) rfl (by kernel_rfl) ?_; replace B2 := Aside0.mk ((setRow_other w3 g3 g2 reply_lines.v1 N23.out).trans B2.out); replace HB := Aside0.mk (below_setRow HB.out G3.out reply_lines.v1); replace B3 := Aside0.mk (setRow_heap w3 g3 _ reply_lines.v1 _ _ B3.out); obtain ⟨w4, hw4⟩ : ∃ w4, w4 = w3.setRow g3 reply_lines.v1 := ⟨_, rfl⟩; rw [← hw4] at B2 B3 HB ⊢; clear hw4; have hc11 : w4.cell? ⟨g3, 11, none⟩ = some (.string ⟨#[83, 69, 82, 86, 69, 82, 95, 69, 82, 82, 79, 82, 32, 111, 117, 116, 32, 111, 102, 32, 109, 101, 109, 111, 114, 121, 32, 115, 116, 111, 114, 105, 110, 103, 32, 111, 98, 106, 101, 99, 116]⟩) := (blk_cell B3.out 11).trans rfl; have hf11 : w4.frozen? ⟨g3, 11, none⟩ = false := blk_frozen B3.out 11)) | ((with_reducible refine gate_op (.load 54 (.tmp 3)) rfl ?_); (refine wpList_load_row rfl 54 (.tmp 3) rfl g3 rfl 54 reply_lines.v1 (0, 0) _ B3.out Tryd.underlying54 rfl (by kernel_rfl) ?_)) | ((with_reducible refine gate_op (.store 54 (.tmp 2) (.tmp 12)) rfl ?_); (refine wpList_store_row rfl 54 (.tmp 2) (.tmp 12) rfl g2 reply_lines.v1 rfl rfl 54 _ B2.out (by kernel_rfl) rfl (by kernel_rfl) ?_; replace HB := Aside0.mk (below_setRow HB.out G2.out reply_lines.v1); replace B2 := Aside0.mk (setRow_heap w4 g2 _ reply_lines.v1 _ _ B2.out))))
 exact bodyPost_ret (results_cell_row rfl _ _ g2 54 reply_lines.v1 (0, 0) _ rfl B2.out Tryd.underlying54 rfl (by kernel_rfl)) rfl ⟨rfl, HB.out⟩
set_option maxHeartbeats 4000000 in
set_option maxRecDepth 100000 in
theorem reply_lines.calls2 (k : Int) (w : World) (h : k = 12) : Calls Tryd.prog 22 #[.int .i64 k] w fun e w' => e = .returned (.agg reply_lines.v2) ∧ Below w.heap.size w w' := by
 have HB := Aside0.mk (Below.refl w.heap.size w); subst h; go_enter Tryd.func22, Tryd.ntmps22
 go_wp2_with (first | ((with_reducible refine gate_dst (N := 2) rfl ?_); (refine bE 2 #[.string ⟨#[]⟩, .string ⟨#[]⟩, .string ⟨#[]⟩, .string ⟨#[]⟩, .string ⟨#[]⟩, .string ⟨#[]⟩, .string ⟨#[]⟩, .string ⟨#[]⟩, .string ⟨#[]⟩, .string ⟨#[]⟩, .string ⟨#[]⟩, .string ⟨#[]⟩, .string ⟨#[]⟩] 54 rfl rfl ?_; intro g2 hg2 w2 hbox hb; have B2 := Aside0.mk hbox; have G2 := Aside0.mk (show w.heap.size ≤ g2 by rw [hg2]; exact HB.out.size); replace HB := Aside0.mk (below_step HB.out hb); clear hg2 hbox hb)) | ((with_reducible refine gate_dst (N := 3) rfl ?_); (refine bE 3 #[.string ⟨#[]⟩, .string ⟨#[]⟩, .string ⟨#[]⟩, .string ⟨#[]⟩, .string ⟨#[]⟩, .string ⟨#[]⟩, .string ⟨#[]⟩, .string ⟨#[]⟩, .string ⟨#[]⟩, .string ⟨#[]⟩, .string ⟨#[]⟩, .string ⟨#[]⟩, .string ⟨#[]⟩] 54 rfl rfl ?_; intro g3 hg3 w3 hbox hb; have B3 := Aside0.mk hbox; have G3 := Aside0.mk (show w.heap.size ≤ g3 by rw [hg3]; exact HB.out.size); have N23 := Aside0.mk (show g2 ≠ g3 by rw [hg3]; exact Nat.ne_of_lt (blk_lt B2.out)); replace B2 := Aside0.mk (blk_below B2.out hb); replace HB := Aside0.mk (below_step HB.out hb); clear hg3 hbox hb)) | ((with_reducible refine gate_op (.store 54 (.tmp 3) (.tmp 4)) rfl ?_); (refine wpList_store_row rfl 54 (.tmp 3) (.tmp 4) rfl g3 reply_lines.v1 rfl rfl 54 _ B3.out (by kernel_rfl) rfl (by kernel_rfl) ?_; replace B2 := Aside0.mk ((setRow_other w3 g3 g2 reply_lines.v1 N23.out).trans B2.out); replace HB := Aside0.mk (below_setRow HB.out G3.out reply_lines.v1); replace B3 := Aside0.mk (setRow_heap w3 g3 _ reply_lines.v1 _ _ B3.out); obtain ⟨w4, hw4⟩ : ∃ w4, w4 = w3.setRow g3 reply_lines.v1 := ⟨_, rfl⟩; rw [← hw4] at B2 B3 HB ⊢; clear hw4; have hc11 : w4.cell? ⟨g3, 11, none⟩ = some (.string ⟨#[83, 69, 82, 86, 69, 82, 95, 69, 82, 82, 79, 82, 32, 111, 117, 116, 32, 111, 102, 32, 109, 101, 109, 111, 114, 121, 32, 115, 116, 111, 114, 105, 110, 103, 32, 111, 98, 106, 101, 99, 116]⟩) := (blk_cell B3.out 11).trans rfl; have hf11 : w4.frozen? ⟨g3, 11, none⟩ = false := blk_frozen B3.out 11)) | ((with_reducible refine gate_op (.load 54 (.tmp 3)) rfl ?_); (have B5 := Aside0.mk (show (w4.setCell ⟨g3, 11, none⟩ (.string ⟨#[83, 69, 82, 86, 69, 82, 95, 69, 82, 82, 79, 82, 32, 111, 117, 116, 32, 111, 102, 32, 109, 101, 109, 111, 114, 121, 32, 105, 110, 32, 105, 110, 99, 114]⟩)).heap[g3]? = some (.cells reply_lines.v2 54 (0, 0)) from blk_put B3.out 11 _ reply_lines.put); have C2 := Aside0.mk (blk_far (p := ⟨g3, 11, none⟩) B2.out N23.out (.string ⟨#[83, 69, 82, 86, 69, 82, 95, 69, 82, 82, 79, 82, 32, 111, 117, 116, 32, 111, 102, 32, 109, 101, 109, 111, 114, 121, 32, 105, 110, 32, 105, 110, 99, 114]⟩)); refine wpList_load_row rfl 54 (.tmp 3) rfl g3 rfl 54 reply_lines.v2 (0, 0) _ B5.out Tryd.underlying54 rfl (by kernel_rfl) ?_)) | ((with_reducible refine gate_op (.store 54 (.tmp 2) (.tmp 12)) rfl ?_); (refine wpList_store_row rfl 54 (.tmp 2) (.tmp 12) rfl g2 reply_lines.v2 rfl rfl 54 _ C2.out (by kernel_rfl) rfl (by kernel_rfl) ?_; replace HB := Aside0.mk (show Below w.heap.size w ((w4.setCell ⟨g3, 11, none⟩ (.string ⟨#[83, 69, 82, 86, 69, 82, 95, 69, 82, 82, 79, 82, 32, 111, 117, 116, 32, 111, 102, 32, 109, 101, 109, 111, 114, 121, 32, 105, 110, 32, 105, 110, 99, 114]⟩)).setRow g2 reply_lines.v2) from below_setRow (eS HB.out G3.out) G2.out reply_lines.v2); replace B2 := Aside0.mk (setRow_heap _ g2 _ reply_lines.v2 _ _ C2.out))))
 exact bodyPost_ret (results_cell_row rfl _ _ g2 54 reply_lines.v2 (0, 0) _ rfl B2.out Tryd.underlying54 rfl (by kernel_rfl)) rfl ⟨rfl, HB.out⟩
set_option maxHeartbeats 4000000 in
set_option maxRecDepth 100000 in
theorem reply_lines.calls3 (k : Int) (w : World) (h : k = 13) : Calls Tryd.prog 22 #[.int .i64 k] w fun e w' => e = .returned (.agg reply_lines.v2) ∧ Below w.heap.size w w' := by
 have HB := Aside0.mk (Below.refl w.heap.size w); subst h; go_enter Tryd.func22, Tryd.ntmps22
 go_wp2_with (first | ((with_reducible refine gate_dst (N := 2) rfl ?_); (refine bE 2 #[.string ⟨#[]⟩, .string ⟨#[]⟩, .string ⟨#[]⟩, .string ⟨#[]⟩, .string ⟨#[]⟩, .string ⟨#[]⟩, .string ⟨#[]⟩, .string ⟨#[]⟩, .string ⟨#[]⟩, .string ⟨#[]⟩, .string ⟨#[]⟩, .string ⟨#[]⟩, .string ⟨#[]⟩] 54 rfl rfl ?_; intro g2 hg2 w2 hbox hb; have B2 := Aside0.mk hbox; have G2 := Aside0.mk (show w.heap.size ≤ g2 by rw [hg2]; exact HB.out.size); replace HB := Aside0.mk (below_step HB.out hb); clear hg2 hbox hb)) | ((with_reducible refine gate_dst (N := 3) rfl ?_); (refine bE 3 #[.string ⟨#[]⟩, .string ⟨#[]⟩, .string ⟨#[]⟩, .string ⟨#[]⟩, .string ⟨#[]⟩, .string ⟨#[]⟩, .string ⟨#[]⟩, .string ⟨#[]⟩, .string ⟨#[]⟩, .string ⟨#[]⟩, .string ⟨#[]⟩, .string ⟨#[]⟩, .string ⟨#[]⟩] 54 rfl rfl ?_; intro g3 hg3 w3 hbox hb; have B3 := Aside0.mk hbox; have G3 := Aside0.mk (show w.heap.size ≤ g3 by rw [hg3]; exact HB.out.size); have N23 := Aside0.mk (show g2 ≠ g3 by rw [hg3]; exact Nat.ne_of_lt (blk_lt B2.out)); replace B2 := Aside0.mk (blk_below B2.out hb); replace HB := Aside0.mk (below_step HB.out hb); clear hg3 hbox hb)) | ((with_reducible refine gate_op (.store 54 (.tmp 3) (.tmp 4)) rfl ?_); (refine wpList_store_row rfl 54 (.tmp 3) (.tmp 4) rfl g3 reply_lines.v1 rfl rfl 54 _ B3.out (by kernel_rfl) rfl (by kernel_rfl) ?_; replace B2 := Aside0.mk ((setRow_other w3 g3 g2 reply_lines.v1 N23.out).trans B2.out); replace HB := Aside0.mk (below_setRow HB.out G3.out reply_lines.v1); replace B3 := Aside0.mk (setRow_heap w3 g3 _ reply_lines.v1 _ _ B3.out); obtain ⟨w4, hw4⟩ : ∃ w4, w4 = w3.setRow g3 reply_lines.v1 := ⟨_, rfl⟩; rw [← hw4] at B2 B3 HB ⊢; clear hw4; have hc11 : w4.cell? ⟨g3, 11, none⟩ = some (.string ⟨#[83, 69, 82, 86, 69, 82, 95, 69, 82, 82, 79, 82, 32, 111, 117, 116, 32, 111, 102, 32, 109, 101, 109, 111, 114, 121, 32, 115, 116, 111, 114, 105, 110, 103, 32, 111, 98, 106, 101, 99, 116]⟩) := (blk_cell B3.out 11).trans rfl; have hf11 : w4.frozen? ⟨g3, 11, none⟩ = false := blk_frozen B3.out 11)) | ((with_reducible refine gate_op (.load 54 (.tmp 3)) rfl ?_); (have B5 := Aside0.mk (show (w4.setCell ⟨g3, 11, none⟩ (.string ⟨#[83, 69, 82, 86, 69, 82, 95, 69, 82, 82, 79, 82, 32, 111, 117, 116, 32, 111, 102, 32, 109, 101, 109, 111, 114, 121, 32, 105, 110, 32, 105, 110, 99, 114]⟩)).heap[g3]? = some (.cells reply_lines.v2 54 (0, 0)) from blk_put B3.out 11 _ reply_lines.put); have C2 := Aside0.mk (blk_far (p := ⟨g3, 11, none⟩) B2.out N23.out (.string ⟨#[83, 69, 82, 86, 69, 82, 95, 69, 82, 82, 79, 82, 32, 111, 117, 116, 32, 111, 102, 32, 109, 101, 109, 111, 114, 121, 32, 105, 110, 32, 105, 110, 99, 114]⟩)); refine wpList_load_row rfl 54 (.tmp 3) rfl g3 rfl 54 reply_lines.v2 (0, 0) _ B5.out Tryd.underlying54 rfl (by kernel_rfl) ?_)) | ((with_reducible refine gate_op (.store 54 (.tmp 2) (.tmp 12)) rfl ?_); (refine wpList_store_row rfl 54 (.tmp 2) (.tmp 12) rfl g2 reply_lines.v2 rfl rfl 54 _ C2.out (by kernel_rfl) rfl (by kernel_rfl) ?_; replace HB := Aside0.mk (show Below w.heap.size w ((w4.setCell ⟨g3, 11, none⟩ (.string ⟨#[83, 69, 82, 86, 69, 82, 95, 69, 82, 82, 79, 82, 32, 111, 117, 116, 32, 111, 102, 32, 109, 101, 109, 111, 114, 121, 32, 105, 110, 32, 105, 110, 99, 114]⟩)).setRow g2 reply_lines.v2) from below_setRow (eS HB.out G3.out) G2.out reply_lines.v2); replace B2 := Aside0.mk (setRow_heap _ g2 _ reply_lines.v2 _ _ C2.out))))
 exact bodyPost_ret (results_cell_row rfl _ _ g2 54 reply_lines.v2 (0, 0) _ rfl B2.out Tryd.underlying54 rfl (by kernel_rfl)) rfl ⟨rfl, HB.out⟩
theorem reply_lines.calls (k : Int) (w : World) : Calls Tryd.prog 22 #[.int .i64 k] w fun e w' => e = .returned (.agg (reply_lines.v k)) ∧ Below w.heap.size w w' := by
 unfold reply_lines.v
 split
 ·rename_i h
  rcases h with h | h
  ·exact reply_lines.calls2 k w h
  ·exact reply_lines.calls3 k w h
 ·rename_i h
  exact reply_lines.calls1 k w h
theorem reply_lines.info : (Tryd.prog.info? 9).map (fun i => i.size) = some 1 := by kernel_rfl
theorem reply_lines.index (k i : Int) (h0 : 0 ≤ i) (h1 : i < 13) (w : World) : (Instr.index 54 (.agg (reply_lines.v k)) (.int .i64 i)).run Tryd.prog w = .ok (.string (rdOf ByteArray.empty (reply_lines.l k) i)) w := by
 obtain ⟨inf, hi, hs⟩ := Option.map_eq_some_iff.1 reply_lines.info; unfold reply_lines.v reply_lines.l
 split
 ·exact Laws.run_index_strings 54 9 13 reply_lines.v2 .i64 i _ Tryd.underlying54 Tryd.underlying9 hi hs h0 h1 (reply_lines.at2 i h0 h1) w
 ·exact Laws.run_index_strings 54 9 13 reply_lines.v1 .i64 i _ Tryd.underlying54 Tryd.underlying9 hi hs h0 h1 (reply_lines.at1 i h0 h1) w

end Go.Proofs.YtdgpagocccabdaaDoor.P
