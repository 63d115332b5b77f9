/- Small facts for the walks of FrameOnce and FramePieces: a text's bytes as a row, one byte as a row, what Next says of a packed frame and of a bad byte. Conditions: the readings that each theorem names. -/
import Derived.Test.YtdepkgikdmlgiaaFon
import Derived.Test.YtdepkgikdmlgiaaPx43
import Derived.Test.YtdepkgikdmlgiaaPx3
import Derived.Test.YtdepkgikdmlgiaaPx5
import Derived.Test.YtdepkgikdmlgiaaPx4
namespace Go.Proofs.Ytdepkgikdmlgiaa.P
open Go.RowKit Go.Proofs.YtdepkgikdmlgiaaW.PrintWords Go.Proofs.YtdepkgikdmlgiaaW.PrintLast Go.Proofs.YtdepkgikdmlgiaaW.PrintMore
set_option linter.unusedVariables false
set_option linter.unusedSimpArgs false
section
variable {P : Program} {ops : Array Oper} {rest : List Oper} {o : Oper} {a : Act} {Q : Exit → Act → World → Prop}
end
theorem bytes_C (W : World) (s : ByteArray) (hs : s.size ≤ 9223372036854775807) : kB.C (Lib.bytesWorld W 5 s) (some ⟨W.heap.size, 0, none⟩) s.size (Pl.bytesL s) :=
  Kd.C_of_reads (enc := Value.int .u8) (d := (0 : Int)) (h1 := fun _ => rfl) (bytes_reads W 5 s hs)
theorem FRd.feedN (w0 w : World) (g : Nat) (bs : List Int) (tl : Int) (B : Option Addr) (c n : Nat) (b : List Int) (hl : b.length = n) (hI : FRd w0 w g bs tl) (hB : Below w0.heap.size w0 w) (hC : kB.C w B n b) (hn : bs.length ≤ 2097152) (hn2 : n ≤ 2097152) (h0 : tl = 0) (h1 : bs.length + n ≤ 2097152) :
    Calls Try.prog 19 #[.pointer (some ⟨g, 0, none⟩), .slice B n c] w fun e w' => e = .returned (.int .i64 0) ∧ FRd w0 w' g (bs ++ b) tl ∧ Below w0.heap.size w0 w' ∧ KeptT w w' g := by
  subst hl
  have h := FRd.feed w0 w g bs tl B c b hI hB hC hn hn2
  unfold feedE feedB at h
  rw [if_pos h0, if_neg (by omega), if_pos h0, if_neg (by omega)] at h
  exact h
theorem unp_ref (bs : List Int) (hl : bs.length ≤ 2097152) (f1 : Bool) (f2 f3 f4 f5 : Int) (f6 f7 f8 : ByteArray) (n e : Int) (h : Pl.unp (strOfNums bs) = (f1, f2, f3, f4, f5, f6, f7, f8, n, e)) : ∃ k, frame_Unpack.f k (strOfNums bs) = some (f1, f2, f3, f4, f5, f6, f7, f8, n, e) := by
  have hs : (strOfNums bs).size ≤ 140737488351232 := by rw [nums_size]; omega
  rw [← h]
  exact (frame_Unpack.Llm (strOfNums bs)).rounds (Pl.funp_eq _ hs)
/-- A frame's numbers are in their types' bounds. -/
def fOk (x : S26) : Prop := (0 ≤ x.f1 ∧ x.f1 < 256) ∧ (0 ≤ x.f2 ∧ x.f2 < 65536) ∧ (0 ≤ x.f3 ∧ x.f3 < 4294967296) ∧ (0 ≤ x.f4 ∧ x.f4 < 18446744073709551616)
theorem getD_mem {α : Type} {l : List α} {i : Nat} {d : α} (h : i < l.length) : l.getD i d ∈ l := by
  rw [List.getD_eq_getElem?_getD, List.getElem?_eq_getElem h]
  exact List.getElem_mem h
theorem great_tot (x : S26) : ∃ g, tallboylaw29_Great.f x.f0 x.f1 x.f2 x.f3 x.f4 x.f5 x.f6 x.f7 = some g ∧ (g = false → x.f5.size + x.f6.size + x.f7.size ≤ 60000) := by
  unfold tallboylaw29_Great.f
  split
  · exact ⟨_, rfl, fun h => by cases h⟩
  · split
    · exact ⟨_, rfl, fun h => by cases h⟩
    · refine ⟨_, rfl, fun h => ?_⟩
      have := of_decide_eq_false h
      omega
/-- A row of frames, of the caller's: the place of one of them, in every world behind. -/
theorem at_fr {w : World} {A : Option Addr} {n : Nat} {xs : List S26} (h : Kd.C k26 w A n xs) (i : Nat) (h1 : i < n) : ∃ ad, A = some ad ∧ ∀ W, Below w.heap.size w W → W.cell? (ad.add (i * 8)) = some (.bool (xs.getD i z26).f0) ∧ W.cell? ⟨(ad.add (i * 8)).block, (ad.add (i * 8)).off + 1, none⟩ = some (.int .u8 (xs.getD i z26).f1) ∧ W.cell? ⟨(ad.add (i * 8)).block, (ad.add (i * 8)).off + 2, none⟩ = some (.int .u16 (xs.getD i z26).f2) ∧ W.cell? ⟨(ad.add (i * 8)).block, (ad.add (i * 8)).off + 3, none⟩ = some (.int .u32 (xs.getD i z26).f3) ∧ W.cell? ⟨(ad.add (i * 8)).block, (ad.add (i * 8)).off + 4, none⟩ = some (.int .u64 (xs.getD i z26).f4) ∧ W.cell? ⟨(ad.add (i * 8)).block, (ad.add (i * 8)).off + 5, none⟩ = some (.string (xs.getD i z26).f5) ∧ W.cell? ⟨(ad.add (i * 8)).block, (ad.add (i * 8)).off + 6, none⟩ = some (.string (xs.getD i z26).f6) ∧ W.cell? ⟨(ad.add (i * 8)).block, (ad.add (i * 8)).off + 7, none⟩ = some (.string (xs.getD i z26).f7) := by
  obtain ⟨ad, e, q0, q1, q2, q3, q4, q5, q6, q7⟩ := at_T26 h (i : Int) (by omega) (by omega)
  simp only [rd_T26, Int.toNat_natCast] at q0 q1 q2 q3 q4 q5 q6 q7
  have hf : ∀ {W : World} (hb : Below w.heap.size w W) {a : Addr} {v : Value} (hq : w.cell? a = some v), W.cell? a = some v := fun hb _ _ hq => (hb.cell (World.block_lt_of_cell? w _ hq)).trans hq
  exact ⟨ad, e, fun W hb => ⟨hf hb q0, hf hb q1, hf hb q2, hf hb q3, hf hb q4, hf hb q5, hf hb q6, hf hb q7⟩⟩
end Go.Proofs.Ytdepkgikdmlgiaa.P
