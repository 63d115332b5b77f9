/- Lean functions for the Go functions that the laws of this seat use, and the proofs that the Go code computes them; conditions: the readings that each theorem names. Written by a program. -/
import Derived.Test.YtdgpagocccabdaaDoorPx0
import Derived.Test.YtdgpagocccabdaaDoorShort
import Derived.Test.YtdgpagocccabdaaDoorShelf
import Derived.Test.YtdgpagocccabdaaDoorWAll
namespace Go.Proofs.YtdgpagocccabdaaDoor.P
open Go.RowKit Go.Proofs.YtdgpagocccabdaaDoorW.PrintWords Go.Proofs.YtdgpagocccabdaaDoorW.PrintLast Go.Proofs.YtdgpagocccabdaaDoorW.PrintMore
set_option linter.unusedVariables false
set_option linter.unusedSimpArgs false

-- HAND
-- FN strings.Join
-- ROUNDS 0
-- MAKING 1
-- FAMS line reply
-- IMPORT Derived.Test.YtdgpagocccabdaaDoorShelf
-- IMPORT Derived.Test.YtdgpagocccabdaaDoorWWords
/-! ### strings.Join, however many elements -/
def strings_Join.f (l0 : List ByteArray) (a1 : ByteArray) : Option (ByteArray) := if l0.length ≤ 140737488355328 ∧ (Lib.join (l0.map (·.data.toList)) a1.data.toList).length ≤ 140737488355328 then some ⟨(Lib.join (l0.map (·.data.toList)) a1.data.toList).toArray⟩ else none
theorem strings_Join.calls (A0 : Option Addr) (c0 : Nat) (l0 : List ByteArray) (a1 : ByteArray) (r : ByteArray) (w : World) (hr0 : Kd.C Kd.string w A0 l0.length l0) (hc0 : l0.length ≤ c0) (h : strings_Join.f l0 a1 = some r) :
  Calls Tryd.prog 24 #[.slice A0 l0.length c0, .string a1] w fun e w' => e = .returned (.string r) ∧ Below w.heap.size w w' := by
 unfold strings_Join.f at h
 split at h
 ·rename_i hb
  have hr := Option.some.inj h; subst hr; cases l0 with
  | nil =>
   refine (Tryd.strings_Join_none A0 c0 a1 w).mono ?_
   rintro e w' ⟨rfl, rfl⟩
   exact ⟨rfl, Below.refl _ _⟩
  | cons x xs =>
   have hat : ∀ i : Nat, i < (x :: xs).length → ∃ ad, A0 = some ad ∧ w.cell? (ad.add i) = some (.string (rdOf ByteArray.empty (x :: xs) i)) := fun i hi => by
    have := Kd.at_string hr0 (i : Int) (by omega) (by omega)
    simpa using this
   obtain ⟨ad, hA, h0⟩ := hat 0 (by simp); subst hA
   have hsp : ad.spot = none := by
    rw [Addr.add, if_pos rfl] at h0; unfold World.cell? at h0
    split at h0
    ·split at h0
     ·cases h0
     ·rename_i h1
      cases hs : ad.spot with
      | none => rfl
      | some v => rw [hs] at h1; exact absurd rfl h1
    ·cases h0
   have had : ad = ⟨ad.block, ad.off, none⟩ := by cases ad; simp at hsp; subst hsp; rfl
   have hcells : ∀ (j : Nat) y, (x :: xs)[j]? = some y → w.cell? ⟨ad.block, ad.off + j, none⟩ = some (.string y) := fun j y hy => by
    have hj : j < (x :: xs).length := (List.getElem?_eq_some_iff.mp hy).1
    obtain ⟨ad', h1, h2⟩ := hat j hj; have h1 := Option.some.inj h1; subst h1
    have e1 : ad.add j = ⟨ad.block, ad.off + j, none⟩ := by
     unfold Addr.add
     split
     ·rename_i h3
      subst h3; exact had
     ·rfl
    rw [e1] at h2; rw [h2]
    have e2 : rdOf ByteArray.empty (x :: xs) (j : Int) = y := by
     unfold rdOf; rw [Int.toNat_natCast, List.getD_eq_getElem?_getD, hy]
     rfl
    rw [e2]
   have hbk : ad.block < w.heap.size := World.block_lt_of_cell? w ⟨ad.block, ad.off + 0, none⟩ (hcells 0 x rfl)
   rw [had]; exact Tryd.strings_Join ad.block ad.off c0 (x :: xs) a1 w hcells hbk hb.1 hc0 hb.2
 ·cases h

end Go.Proofs.YtdgpagocccabdaaDoor.P
