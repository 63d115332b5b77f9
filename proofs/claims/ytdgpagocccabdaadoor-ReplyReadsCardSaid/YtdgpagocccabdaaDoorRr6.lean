/- A hit at the front of bytes: the document's is the program's. Plain Lean; conditions: texts of at most 1000000 bytes. -/
import Derived.Test.YtdgpagocccabdaaDoorRr5
namespace Go.Proofs.YtdgpagocccabdaaDoor.Pl
set_option linter.unusedVariables false
set_option linter.unusedSimpArgs false
open Go Go.RowKit Go.Proofs.YtdgpagocccabdaaDoor.P Go.Proofs.YtdgpagocccabdaaDoor.Lim Go.Proofs.YtdgpagocccabdaaDoorW.PrintWords
theorem behind_data (s : ByteArray) : (behind s).data.toList = s.data.toList.drop ((ixE s).toNat + 2) := by
  unfold behind
  exact Lib.extract_to_end s _
theorem behind_size (s : ByteArray) : (behind s).size = s.size - ((ixE s).toNat + 2) := by
  rw [← size_eq, behind_data, List.length_drop, size_eq]
theorem restV_data (s : ByteArray) (w : List ByteArray) : (restV w (behind s)).data.toList = s.data.toList.drop ((ixE s).toNat + 2 + (numV (rdOf ByteArray.empty w 3) 2000).1.toNat) := by
  unfold restV
  rw [Lib.extract_to_end, behind_data, List.drop_drop]
theorem behind_cut (s : ByteArray) (z : Nat) : (behind s).extract 0 z = s.extract ((ixE s).toNat + 2) ((ixE s).toNat + 2 + z) := by
  apply ba_ext
  rw [Lib.extract_from_zero, behind_data, ByteArray.data_extract, Array.toList_extract]
  simp only [List.extract, Nat.add_sub_cancel_left]
/-- What the document says of a hit, by what the program says. -/
def rhitW (s : ByteArray) (w : List ByteArray) : ByteArray × Int × ByteArray × Int × Int × Bool :=
  if (hitW w (behind s)).2.2.2.2.2 = true then ((hitW w (behind s)).1, (hitW w (behind s)).2.1, (hitW w (behind s)).2.2.1, (hitW w (behind s)).2.2.2.1, (((ixE s).toNat + 2 + (numV (rdOf ByteArray.empty w 3) 2000).1.toNat + 2 : Nat) : Int), true) else zr
theorem rhitW_no (s : ByteArray) (w : List ByteArray) (h : ¬ okW w) : rhitW s w = zr := by
  unfold rhitW
  have e : hitW w (behind s) = zh := by unfold hitW; rw [if_neg (fun x => h x.1)]
  rw [e, if_neg (by unfold zh; decide)]
theorem rhitW_ok (s : ByteArray) (w : List ByteArray) (h : okW w) (hn : (ixE s).toNat + 2 ≤ s.size) :
    rhitW s w = if Lib.hasPrefix (s.data.toList.drop ((ixE s).toNat + 2 + (numV (rdOf ByteArray.empty w 3) 2000).1.toNat)) [13, 10] = true then (rdOf ByteArray.empty w 1, (numV (rdOf ByteArray.empty w 2) 4294967295).1 % 4294967296, s.extract ((ixE s).toNat + 2) ((ixE s).toNat + 2 + (numV (rdOf ByteArray.empty w 3) 2000).1.toNat), (numV (rdOf ByteArray.empty w 4) 18446744073709551615).1, (((ixE s).toNat + 2 + (numV (rdOf ByteArray.empty w 3) 2000).1.toNat + 2 : Nat) : Int), true) else zr := by
  have hz := num_nn (rdOf ByteArray.empty w 3) 2000
  unfold rhitW
  by_cases hs : (numV (rdOf ByteArray.empty w 3) 2000).1 ≤ ((behind s).size : Int)
  · have e : hitW w (behind s) = (rdOf ByteArray.empty w 1, (numV (rdOf ByteArray.empty w 2) 4294967295).1 % 4294967296, (behind s).extract 0 (numV (rdOf ByteArray.empty w 3) 2000).1.toNat, (numV (rdOf ByteArray.empty w 4) 18446744073709551615).1, ⟨(Lib.trimPrefix (restV w (behind s)).data.toList [13, 10]).toArray⟩, Lib.hasPrefix (restV w (behind s)).data.toList [13, 10]) := by
      unfold hitW
      rw [if_pos ⟨h, hs⟩]
    rw [e, restV_data, behind_cut]
  · have e : hitW w (behind s) = zh := by unfold hitW; rw [if_neg (fun x => hs x.2)]
    rw [e, if_neg (by unfold zh; decide), if_neg (fun hp => by
      have := pre_len _ hp
      rw [List.length_drop, size_eq] at this
      rw [behind_size] at hs
      omega)]
theorem rj1_eq (s : ByteArray) (hs : s.size ≤ 1000000) (hn : (ixE s).toNat + 2 ≤ s.size) (W w : List ByteArray) (want : Int) (hW : want = 5 ∨ want = 4) (hl : (W.length : Int) = want ↔ w.length = 5)
    (hb : ∀ i : Int, (rdOf ByteArray.empty w i).size ≤ 1000000)
    (hr : (W.length : Int) = want → rdOf ByteArray.empty W 0 = rdOf ByteArray.empty w 0 ∧ rdOf ByteArray.empty W 1 = rdOf ByteArray.empty w 1 ∧ rdOf ByteArray.empty W 2 = rdOf ByteArray.empty w 2 ∧ rdOf ByteArray.empty W 3 = rdOf ByteArray.empty w 3)
    (h4 : (W.length : Int) = want → if want = 5 then rdOf ByteArray.empty W 4 = rdOf ByteArray.empty w 4 else rdOf ByteArray.empty w 4 = ⟨#[48]⟩) :
    tallboyref18_hit.j1L s (((ixE s).toNat + 2 : Nat) : Int) W want = some (rhitW s w) := by
  have jt : tallboyref18_hit.j2L s (((ixE s).toNat + 2 : Nat) : Int) W want true = some zr := by
    rw [tallboyref18_hit.j2L_eq, if_pos rfl]
    rfl
  rw [tallboyref18_hit.j1L_eq]
  by_cases hlen : (W.length : Int) = want
  · obtain ⟨r0, r1, r2, r3⟩ := hr hlen
    have h5 := hl.1 hlen
    have q4 := h4 hlen
    rw [if_pos hlen, if_pos (show 0 < (W.length : Int) by omega), r0]
    by_cases hv : (rdOf ByteArray.empty w 0).toList = [86, 65, 76, 85, 69]
    · rw [if_pos hv, if_pos (show 1 < (W.length : Int) by omega), r1, rkey_eq, Option.bind_some]
      cases hk : keyP (rdOf ByteArray.empty w 1) with
      | false =>
        rw [rhitW_no s w (fun h => by have := h.2.2.1; rw [hk] at this; cases this)]
        exact jt
      | true =>
        rw [tallboyref18_hit.j2L_eq, if_neg (by decide), if_pos (show 2 < (W.length : Int) by omega), r2, rnumber_eq _ _ (hb 2), Option.bind_some, if_pos (show 3 < (W.length : Int) by omega), r3, rnumber_eq _ _ (hb 3), Option.bind_some]
        have fin_ : ∀ (c : Int) (z : Bool), c = (numV (rdOf ByteArray.empty w 4) 18446744073709551615).1 → z = (numV (rdOf ByteArray.empty w 4) 18446744073709551615).2 → tallboyref18_hit.j3L s (((ixE s).toNat + 2 : Nat) : Int) W (numV (rdOf ByteArray.empty w 2) 4294967295).1 (numV (rdOf ByteArray.empty w 2) 4294967295).2 (numV (rdOf ByteArray.empty w 3) 2000).1 (numV (rdOf ByteArray.empty w 3) 2000).2 c z = some (rhitW s w) := by
          intro c z hc hz
          by_cases hall : (numV (rdOf ByteArray.empty w 2) 4294967295).2 = true ∧ (numV (rdOf ByteArray.empty w 3) 2000).2 = true ∧ z = true
          · obtain ⟨a2, a3, a4⟩ := hall
            have n0 := num_nn (rdOf ByteArray.empty w 3) 2000
            have n1 := num_le _ _ a3
            have ho : okW w := ⟨h5, hv, hk, a2, a3, by rw [← hz]; exact a4⟩
            have hj := rj3_ok s hs ((ixE s).toNat + 2) (numV (rdOf ByteArray.empty w 3) 2000).1.toNat hn (by omega) W (by omega) (numV (rdOf ByteArray.empty w 2) 4294967295).1 c
            rw [Int.toNat_of_nonneg n0] at hj
            rw [a2, a3, a4, hj, rhitW_ok s w ho hn, r1, hc]
          · rw [rj3_no _ _ _ _ _ _ _ _ _ hall, rhitW_no s w (fun h => hall ⟨h.2.2.2.1, h.2.2.2.2.1, by rw [hz]; exact h.2.2.2.2.2⟩)]
        rcases hW with rfl | rfl
        · rw [if_pos rfl] at q4
          rw [if_pos rfl, if_pos (show 4 < (W.length : Int) by omega), q4, rnumber_eq _ _ (hb 4), Option.bind_some]
          exact fin_ _ _ rfl rfl
        · rw [if_neg (by decide)] at q4
          rw [if_neg (by decide)]
          have e := num_zero 18446744073709551615 (by decide)
          rw [← q4] at e
          exact fin_ _ _ (by rw [e]) (by rw [e])
    · rw [if_neg hv, rhitW_no s w (fun h => hv h.2.1)]
      exact jt
  · rw [if_neg hlen, rhitW_no s w (fun h => hlen (hl.2 h.1))]
    exact jt
end Go.Proofs.YtdgpagocccabdaaDoor.Pl
