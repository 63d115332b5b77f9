/- What two lines say: 'get KEY', and 'set KEY 0 0 N' where N is too many. Conditions: the key's bytes. -/
import Derived.Test.YtginfaencjmhgaaDoorCnq
import Derived.Test.YtginfaencjmhgaaDoorWds
namespace Go.Proofs.YtginfaencjmhgaaDoor.Pl
set_option linter.unusedVariables false
set_option linter.unusedSimpArgs false
open Go Go.RowKit Go.Proofs.YtginfaencjmhgaaDoor.P Go.Proofs.YtginfaencjmhgaaDoor.Lim Go.Proofs.YtginfaencjmhgaaDoorW.PrintWords
theorem sp_cut (a l : List UInt8) (h0 : a ≠ []) (h : ∀ b ∈ a, b ≠ 32) : splitB [] (a ++ 32 :: l) = a :: splitB [] l := by
  rw [splitB_more _ _ _ h, List.nil_append, splitB, if_pos rfl, if_neg h0]
theorem sp_one (a : List UInt8) (h0 : a ≠ []) (h : ∀ b ∈ a, b ≠ 32) : splitB [] a = [a] := by
  have e := splitB_more a [] [] h
  rw [List.append_nil, List.nil_append] at e
  rw [e, splitB, if_neg h0]
theorem words_are (s : ByteArray) (ws : List ByteArray) (h : splitB [] s.data.toList = ws.map (·.data.toList)) : Lib.goFieldsP blankP s = ws :=
  (List.map_inj_right (fun x y (hxy : x.data.toList = y.data.toList) => ba_ext hxy)).1 ((words_split s).trans h)
def GETS : ByteArray := ⟨#[103, 101, 116, 32]⟩
theorem app_list (a b : ByteArray) : (a ++ b).data.toList = a.data.toList ++ b.data.toList := by rw [ByteArray.data_append, Array.toList_append]
theorem ne_of_size {x : ByteArray} (h : 1 ≤ x.size) : x.data.toList ≠ [] := fun e => by
  have := size_eq x
  rw [e] at this
  simp at this
  omega
set_option maxRecDepth 100000 in
theorem get_line (key : ByteArray) (h1 : 1 ≤ key.size) (h2 : key.size ≤ 32) (hb : keyP key = true) (h32 : ∀ b ∈ key.data.toList, b ≠ 32) : pT (GETS ++ key) = (1, 1, [key], 0, 0, ⟨#[]⟩, 0, 0, false, 0, 0) := by
  have hw : Lib.goFieldsP blankP (GETS ++ key) = [⟨#[103, 101, 116]⟩, key] := words_are _ _ (by
    rw [app_list]
    show splitB [] ([103, 101, 116] ++ 32 :: key.data.toList) = _
    rw [sp_cut _ _ (by decide) (by decide), sp_one _ (ne_of_size h1) h32]
    rfl)
  have hs : (GETS ++ key).size = 4 + key.size := by rw [ByteArray.size_append]; rfl
  have hk : verb_Kind.f ⟨#[103, 101, 116]⟩ = some 1 := by decide +kernel
  have hp : pO (GETS ++ key) = some (1, 1, [key], 0, 0, ⟨#[]⟩, 0, 0, false, 0, 0) := by
    unfold pO
    rw [if_neg (by omega), hw]
    unfold wordsO
    dsimp only
    rw [hk]
    rw [Option.bind_some, if_neg (by decide), if_pos (by decide)]
    unfold readsO
    rw [if_pos (by show 1 < 1000; decide), if_neg (by decide)]
    dsimp only
    have : kvP [key] (wrV (decide (8 < ([] : List ByteArray).length + 1)) 4 0) = 0 := by
      unfold kvP
      rw [List.all_cons, hb]
      rfl
    rw [this]
    rfl
  unfold pT
  rw [hp]
  rfl
end Go.Proofs.YtginfaencjmhgaaDoor.Pl
