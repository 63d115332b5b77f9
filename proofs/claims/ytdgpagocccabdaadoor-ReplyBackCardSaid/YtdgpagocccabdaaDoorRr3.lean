/- A hit at the front of bytes, as the program reads it. Plain Lean; conditions: texts of at most 1000000 bytes. -/
import Derived.Test.YtdgpagocccabdaaDoorRr2
namespace Go.Proofs.YtdgpagocccabdaaDoor.Pl
set_option linter.unusedVariables false
set_option linter.unusedSimpArgs false
open Go Go.RowKit Go.Proofs.YtdgpagocccabdaaDoor.P Go.Proofs.YtdgpagocccabdaaDoor.Lim Go.Proofs.YtdgpagocccabdaaDoorW.PrintWords
def zh : ByteArray × Int × ByteArray × Int × ByteArray × Bool := (⟨#[]⟩, 0, ⟨#[]⟩, 0, ⟨#[]⟩, false)
/-- Five words of a hit's line: as they must be. -/
def okW (w : List ByteArray) : Prop := w.length = 5 ∧ (rdOf ByteArray.empty w 0).toList = [86, 65, 76, 85, 69] ∧ keyP (rdOf ByteArray.empty w 1) = true ∧ (numV (rdOf ByteArray.empty w 2) 4294967295).2 = true ∧ (numV (rdOf ByteArray.empty w 3) 2000).2 = true ∧ (numV (rdOf ByteArray.empty w 4) 18446744073709551615).2 = true
instance (w : List ByteArray) : Decidable (okW w) := by unfold okW; exact inferInstance
def restV (w : List ByteArray) (rest : ByteArray) : ByteArray := rest.extract (numV (rdOf ByteArray.empty w 3) 2000).1.toNat rest.size
def hitW (w : List ByteArray) (rest : ByteArray) : ByteArray × Int × ByteArray × Int × ByteArray × Bool :=
  if okW w ∧ (numV (rdOf ByteArray.empty w 3) 2000).1 ≤ (rest.size : Int) then
    (rdOf ByteArray.empty w 1, (numV (rdOf ByteArray.empty w 2) 4294967295).1 % 4294967296, rest.extract 0 (numV (rdOf ByteArray.empty w 3) 2000).1.toNat, (numV (rdOf ByteArray.empty w 4) 18446744073709551615).1, ⟨(Lib.trimPrefix (restV w rest).data.toList [13, 10]).toArray⟩, Lib.hasPrefix (restV w rest).data.toList [13, 10])
  else zh
theorem num_nn (s : ByteArray) (m : Int) : 0 ≤ (numV s m).1 := (prs_rng s.data.toList).1
theorem j2_true (rest : ByteArray) (w : List ByteArray) : reply_hit.j2L rest w true = some zh := by
  rw [reply_hit.j2L_eq, if_pos rfl]
  rfl
theorem j3_true (rest : ByteArray) (w : List ByteArray) (a b c : Int) : reply_hit.j3L rest w a b c true = some zh := by
  rw [reply_hit.j3L_eq, if_pos rfl]
  rfl
theorem j1_eq (rest : ByteArray) (w : List ByteArray) (hr : rest.size ≤ 1000000) (hw : ∀ i : Int, (rdOf ByteArray.empty w i).size ≤ 1000000) : reply_hit.j1L rest w = some (hitW w rest) := by
  unfold hitW
  rw [reply_hit.j1L_eq]
  by_cases h5 : w.length = 5
  · have g0 : (w.length : Int) = 5 := by omega
    rw [if_pos g0, if_pos (show 0 < (w.length : Int) by omega)]
    by_cases hv : (rdOf ByteArray.empty w 0).toList = [86, 65, 76, 85, 69]
    · rw [if_pos hv, if_pos (show 1 < (w.length : Int) by omega), key_eq, Option.bind_some]
      cases hk : keyP (rdOf ByteArray.empty w 1) with
      | false =>
        rw [if_neg (fun h => by have := h.1.2.2.1; rw [hk] at this; cases this)]
        exact j2_true rest w
      | true =>
        rw [reply_hit.j2L_eq, if_neg (by decide), if_pos (show 2 < (w.length : Int) by omega), number_eq _ _ (hw 2), Option.bind_some, if_pos (show 3 < (w.length : Int) by omega), number_eq _ _ (hw 3), Option.bind_some, if_pos (show 4 < (w.length : Int) by omega), number_eq _ _ (hw 4), Option.bind_some]
        by_cases n2 : (numV (rdOf ByteArray.empty w 2) 4294967295).2 = true
        · rw [if_pos n2]
          by_cases n3 : (numV (rdOf ByteArray.empty w 3) 2000).2 = true
          · rw [if_pos n3]
            by_cases n4 : (numV (rdOf ByteArray.empty w 4) 18446744073709551615).2 = true
            · rw [if_pos n4]
              have hz := num_nn (rdOf ByteArray.empty w 3) 2000
              have hu : IntKind.u64.wrap (rest.size : Int) = (rest.size : Int) := by rw [IntKind.wrap_u64]; omega
              rw [hu]
              clear hu
              by_cases hs : (numV (rdOf ByteArray.empty w 3) 2000).1 ≤ (rest.size : Int)
              · rw [decide_eq_false (show ¬ (rest.size : Int) < (numV (rdOf ByteArray.empty w 3) 2000).1 by omega), reply_hit.j3L_eq, if_neg (by decide), if_pos (show 1 < (w.length : Int) by omega), if_pos hz, if_pos hs, if_pos ⟨⟨h5, hv, hk, n2, n3, n4⟩, hs⟩]
                rfl
              · rw [decide_eq_true (show (rest.size : Int) < (numV (rdOf ByteArray.empty w 3) 2000).1 by omega), if_neg (fun h => hs h.2)]
                exact j3_true rest w _ _ _
            · rw [if_neg n4, if_neg (fun h => n4 h.1.2.2.2.2.2)]
              exact j3_true rest w _ _ _
          · rw [if_neg n3, if_neg (fun h => n3 h.1.2.2.2.2.1)]
            exact j3_true rest w _ _ _
        · rw [if_neg n2, if_neg (fun h => n2 h.1.2.2.2.1)]
          exact j3_true rest w _ _ _
    · rw [if_neg hv, if_neg (fun h => hv h.1.2.1)]
      exact j2_true rest w
  · rw [if_neg (show ¬ (w.length : Int) = 5 by omega), if_neg (fun h => h5 h.1.1)]
    exact j2_true rest w
end Go.Proofs.YtdgpagocccabdaaDoor.Pl
