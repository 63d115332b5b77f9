/- A result read out of bytes: the document's first line and its words are the library's cut and split. Plain Lean; conditions: texts of at most 1000000 bytes. -/
import Derived.Test.YtdgpagocccabdaaDoorRwr
import Derived.Test.YtdgpagocccabdaaDoorLmReplyReads
import Derived.Lib.SplitLaws
import Derived.Lib.IndexMore
namespace Go.Proofs.YtdgpagocccabdaaDoor.Pl
set_option linter.unusedVariables false
set_option linter.unusedSimpArgs false
open Go Go.RowKit Go.Proofs.YtdgpagocccabdaaDoor.P Go.Proofs.YtdgpagocccabdaaDoor.Lim Go.Proofs.YtdgpagocccabdaaDoorW.PrintWords
theorem bt_is (s : ByteArray) (i : Nat) (h : i < s.data.toList.length) (c : UInt8) : bt s (i : Int) = (c.toNat : Int) ↔ s.data.toList[i] = c := by
  rw [bt_get s i h]
  constructor
  · intro e
    exact UInt8.toNat_inj.1 (by omega)
  · intro e
    rw [e]
theorem occ2 (s : ByteArray) (i : Nat) : Lib.occAt s.data.toList [13, 10] i = true ↔ i + 1 < s.size ∧ bt s (i : Int) = 13 ∧ bt s ((i + 1 : Nat) : Int) = 10 := by
  rw [← size_eq]
  unfold Lib.occAt
  rcases Nat.lt_or_ge i s.data.toList.length with h | h
  · rw [List.drop_eq_getElem_cons h]
    rcases Nat.lt_or_ge (i + 1) s.data.toList.length with h2 | h2
    · rw [List.drop_eq_getElem_cons h2]
      have b1 := bt_is s i h 13
      have b2 := bt_is s (i + 1) h2 10
      simp only [List.isPrefixOf, Bool.and_eq_true, beq_iff_eq, and_true]
      rw [show ((13 : UInt8).toNat : Int) = 13 from rfl] at b1
      rw [show ((10 : UInt8).toNat : Int) = 10 from rfl] at b2
      rw [b1, b2]
      exact ⟨fun ⟨x, y⟩ => ⟨h2, x.symm, y.symm⟩, fun ⟨_, x, y⟩ => ⟨x.symm, y.symm⟩⟩
    · rw [List.drop_eq_nil_of_le h2]
      simp only [List.isPrefixOf, Bool.and_false]
      exact ⟨fun e => (by cases e), fun e => (by omega)⟩
  · rw [List.drop_eq_nil_of_le h]
    simp only [List.isPrefixOf]
    exact ⟨fun e => (by cases e), fun e => (by omega)⟩
def ixE (s : ByteArray) : Int := Lib.index s.data.toList [13, 10]
def lineV (s : ByteArray) : ByteArray × Int × Bool := if 0 ≤ ixE s then (s.extract 0 (ixE s).toNat, ixE s + 2, true) else (⟨#[]⟩, 0, false)
theorem rline_loop (s : ByteArray) (hs : s.size ≤ 1000000) (d : Nat) : ∀ i : Nat, i + d = s.size → Lib.NoOcc s.data.toList [13, 10] i → tallboyref18_line.l0L s (i : Int) = some (lineV s) := by
  have none_ : ∀ i : Nat, s.size ≤ i + 1 → Lib.NoOcc s.data.toList [13, 10] i → ixE s = -1 := by
    intro i hi hno
    refine Lib.index_none fun j _ => ?_
    rcases Nat.lt_or_ge j i with h | h
    · exact hno j h
    · cases hb : Lib.occAt s.data.toList [13, 10] j with
      | false => rfl
      | true => have := ((occ2 s j).1 hb).1; omega
  have stop : ∀ i : Nat, i ≤ 1000000 → s.size ≤ i + 1 → Lib.NoOcc s.data.toList [13, 10] i → tallboyref18_line.l0L s (i : Int) = some (lineV s) := by
    intro i h0 hi hno
    have hx := none_ i hi hno
    have hw : wrap64 ((i : Int) + 1) = (i : Int) + 1 := w64 (by omega) (by omega)
    rw [tallboyref18_line.l0L_eq, hw]
    clear hw
    rw [if_neg (by omega)]
    unfold lineV
    rw [if_neg (by omega)]
  induction d with
  | zero =>
    intro i hi hno
    exact stop i (by omega) (by omega) hno
  | succ d ih =>
    intro i hi hno
    rcases Nat.lt_or_ge (i + 1) s.size with h1 | h1
    · have c1 : (i : Int) + 1 < (s.size : Int) := by omega
      have c2 : 0 ≤ (i : Int) := by omega
      have c3 : (i : Int) < (s.size : Int) := by omega
      have c4 : (i : Int) ≤ (s.size : Int) := by omega
      have c5 : 0 ≤ (i : Int) + 1 := by omega
      have hw : wrap64 ((i : Int) + 1) = (i : Int) + 1 := w64 (by omega) (by omega)
      have hw2 : wrap64 ((i : Int) + 2) = (i : Int) + 2 := w64 (by omega) (by omega)
      have e1 : (i : Int) + 1 = ((i + 1 : Nat) : Int) := by omega
      have next : ¬ (bt s (i : Int) = 13 ∧ bt s ((i + 1 : Nat) : Int) = 10) → tallboyref18_line.l0L s ((i + 1 : Nat) : Int) = some (lineV s) := by
        intro hb
        refine ih (i + 1) (by omega) fun j hj => ?_
        rcases Nat.lt_or_ge j i with h | h
        · exact hno j h
        · obtain rfl : j = i := by omega
          cases ho : Lib.occAt s.data.toList [13, 10] j with
          | false => rfl
          | true => exact absurd ((occ2 s j).1 ho).2 hb
      rw [tallboyref18_line.l0L_eq, hw, hw2]
      clear hw hw2
      rw [if_pos c1, if_pos c2, if_pos c3, if_pos c5, if_pos c4]
      by_cases b1 : bt s (i : Int) = 13
      · rw [if_pos b1, e1]
        by_cases b2 : bt s ((i + 1 : Nat) : Int) = 10
        · have hx : ixE s = (i : Int) := Lib.index_hit hno (by rw [size_eq]; omega) ((occ2 s i).2 ⟨h1, b1, b2⟩)
          rw [if_pos b2]
          unfold lineV
          rw [hx, if_pos c2]
        · rw [if_neg b2]
          exact next fun h => b2 h.2
      · rw [if_neg b1, e1]
        exact next fun h => b1 h.1
    · exact stop i (by omega) h1 hno
theorem rline_eq (s : ByteArray) (hs : s.size ≤ 1000000) : tallboyref18_line.L s = some (lineV s) := by
  rw [tallboyref18_line.L_eq]
  exact rline_loop s hs s.size 0 (by omega) (Lib.NoOcc.zero _ _)
theorem cut_eq (s : ByteArray) (hs : s.size ≤ 1000000) : strings_Cut.f s ⟨#[13, 10]⟩ = some (if 0 ≤ ixE s then (s.extract 0 (ixE s).toNat, s.extract ((ixE s).toNat + 2) s.size, true) else (s, ⟨#[]⟩, false)) := by
  unfold strings_Cut.f Lib.cut
  rw [if_pos hs]
  refine congrArg some ?_
  rw [show (⟨#[13, 10]⟩ : ByteArray).data.toList = [13, 10] from rfl]
  show (_ , _, _) = _
  unfold ixE
  split
  · refine Prod.ext ?_ (Prod.ext ?_ rfl)
    · apply ba_ext
      rw [Lib.extract_from_zero]
    · apply ba_ext
      rw [Lib.extract_to_end]
      rfl
  · rfl
/-- Words between single blanks. -/
def spl : List UInt8 → List UInt8 → List (List UInt8)
  | cur, [] => [cur]
  | cur, c :: t => if c = 32 then cur :: spl [] t else spl (cur ++ [c]) t
theorem occ1 (c : UInt8) (t : List UInt8) : Lib.occAt (c :: t) [32] 0 = true ↔ c = 32 := by
  unfold Lib.occAt
  simp only [List.drop_zero, List.isPrefixOf, Bool.and_true, beq_iff_eq]
  exact ⟨fun h => h.symm, fun h => h.symm⟩
theorem spl_hit : ∀ (i : Nat) (l cur : List UInt8), Lib.NoOcc l [32] i → Lib.occAt l [32] i = true → spl cur l = (cur ++ l.take i) :: spl [] (l.drop (i + 1)) := by
  intro i
  induction i with
  | zero =>
    intro l cur _ ho
    cases l with
    | nil => simp [Lib.occAt] at ho
    | cons c t =>
      have hc := (occ1 c t).1 ho
      rw [spl, if_pos hc, List.take_zero, List.append_nil]
      rfl
  | succ i ih =>
    intro l cur hn ho
    cases l with
    | nil => simp [Lib.occAt] at ho
    | cons c t =>
      have hc : c ≠ 32 := fun h => by
        have := hn 0 (by omega)
        rw [(occ1 c t).2 h] at this
        cases this
      rw [spl, if_neg hc, ih t (cur ++ [c]) (fun j hj => hn (j + 1) (by omega)) ho, List.append_assoc]
      rfl
theorem spl_miss : ∀ (l cur : List UInt8), (∀ j, j ≤ l.length → Lib.occAt l [32] j = false) → spl cur l = [cur ++ l] := by
  intro l
  induction l with
  | nil => intro cur _; rw [spl, List.append_nil]
  | cons c t ih =>
    intro cur h
    have hc : c ≠ 32 := fun e => by
      have := h 0 (by omega)
      rw [(occ1 c t).2 e] at this
      cases this
    rw [spl, if_neg hc, ih (cur ++ [c]) (fun j hj => h (j + 1) (by rw [List.length_cons]; omega)), List.append_assoc]
    rfl
theorem splitK_spl : ∀ (n : Nat) (l : List UInt8), l.length ≤ n → Lib.splitK [32] 0 (Lib.count l [32]) l = spl [] l := by
  intro n
  induction n with
  | zero =>
    intro l hl
    obtain rfl : l = [] := List.eq_nil_of_length_eq_zero (by omega)
    rfl
  | succ n ih =>
    intro l hl
    rcases Lib.index_spec l [32] with ⟨hm, hno⟩ | ⟨i, hi, hle, ho, hno⟩
    · rw [Lib.count_miss hm, spl_miss l [] hno]
      rfl
    · have hlt : i < l.length := by
        rcases Nat.lt_or_ge i l.length with h | h
        · exact h
        · unfold Lib.occAt at ho
          rw [List.drop_eq_nil_of_le h] at ho
          simp at ho
      rw [Lib.count_hit (by simp) hi, Nat.add_comm, spl_hit i l [] hno ho]
      unfold Lib.splitK
      rw [if_neg (by rw [hi]; simp), hi, Int.toNat_natCast, Nat.add_zero, List.nil_append]
      refine congrArg _ ?_
      exact ih (l.drop (i + 1)) (by rw [List.length_drop]; omega)
def mk (l : List UInt8) : ByteArray := ⟨l.toArray⟩
theorem mk_data (s : ByteArray) : mk s.data.toList = s := by
  apply ba_ext
  unfold mk
  simp
theorem split_eq (s : ByteArray) (hs : s.size ≤ 1000000) : strings_Split.f s ⟨#[32]⟩ = some ((spl [] s.data.toList).map mk) := by
  have hc : Lib.countB s ⟨#[32]⟩ ≤ 1000000 := Nat.le_trans (Lib.countB_le ⟨#[32]⟩ (by decide) s.size s (Nat.le_refl _)) hs
  unfold strings_Split.f
  rw [if_pos ⟨hs, by decide, hc⟩]
  refine congrArg some ?_
  have h := Lib.splitB_data ⟨#[32]⟩ 0 (Lib.countB s ⟨#[32]⟩) s
  have h2 := congrArg (List.map mk) h
  rw [List.map_map] at h2
  rw [show (mk ∘ fun x : ByteArray => x.data.toList) = id from funext fun x => mk_data x, List.map_id] at h2
  rw [h2]
  refine congrArg _ ?_
  exact splitK_spl _ s.data.toList (Nat.le_refl _)
theorem rcut_loop (s : ByteArray) (hs : s.size ≤ 1000000) (d : Nat) : ∀ (i : Nat) (ws : List ByteArray) (cur : ByteArray), i + d = s.size → ws.length ≤ i → cur.size ≤ i → tallboyref18_cut.l0L s (ws ++ [cur]) (i : Int) = some (ws ++ (spl cur.data.toList (s.data.toList.drop i)).map mk) := by
  induction d with
  | zero =>
    intro i ws cur hi h1 h2
    rw [tallboyref18_cut.l0L_eq, if_neg (by omega), List.drop_eq_nil_of_le (by rw [size_eq]; omega)]
    rw [spl, List.map_cons, List.map_nil, mk_data]
  | succ d ih =>
    intro i ws cur hi h1 h2
    have hlt : i < s.data.toList.length := by rw [size_eq]; omega
    have hlen : (ws ++ [cur]).length = ws.length + 1 := by simp
    have c1 : (i : Int) < (s.size : Int) := by omega
    have c2 : 0 ≤ (i : Int) := by omega
    have e1 : (i : Int) + 1 = ((i + 1 : Nat) : Int) := by omega
    have hw : wrap64 ((i : Int) + 1) = ((i + 1 : Nat) : Int) := (w64 (i := (i : Int) + 1) (by omega) (by omega)).trans e1
    have hw2 : wrap64 (((ws ++ [cur]).length : Int) - 1) = ((ws.length : Nat) : Int) := by
      rw [hlen]
      exact (w64 (i := ((ws.length + 1 : Nat) : Int) - 1) (by omega) (by omega)).trans (by omega)
    have hb := bt_is s i hlt 32
    rw [show ((32 : UInt8).toNat : Int) = 32 from rfl] at hb
    have c3 : (ws ++ [cur]).length < 8796093022208 := by rw [hlen]; omega
    have c4 : 0 ≤ ((ws.length : Nat) : Int) := by omega
    have c5 : ((ws.length : Nat) : Int) < ((ws ++ [cur]).length : Int) := by rw [hlen]; omega
    have c6 : (i : Int) ≤ ((i + 1 : Nat) : Int) := by omega
    have c7 : ((i + 1 : Nat) : Int) ≤ (s.size : Int) := by omega
    have hr : rdOf ByteArray.empty (ws ++ [cur]) ((ws.length : Nat) : Int) = cur := by
      unfold rdOf
      rw [Int.toNat_natCast, List.getD_eq_getElem?_getD, List.getElem?_append_right (Nat.le_refl _), Nat.sub_self]
      rfl
    have hex : (s.extract i (i + 1)).data.toList = [s.data.toList[i]] := by
      rw [ByteArray.data_extract, Array.toList_extract]
      simp only [List.extract, Nat.add_sub_cancel_left]
      rw [List.drop_eq_getElem_cons hlt, List.take_succ_cons, List.take_zero]
    have hes : (s.extract i (i + 1)).size = 1 := by rw [← size_eq, hex]; rfl
    have c8 : cur.size + (s.extract i (i + 1)).size ≤ 9223372036854775807 := by rw [hes]; omega
    rw [tallboyref18_cut.l0L_eq, hw, hw2, if_pos c1, if_pos c2, hr, Int.toNat_natCast, Int.toNat_natCast, Int.toNat_natCast]
    clear hw hw2
    rw [List.drop_eq_getElem_cons hlt]
    rw [spl]
    by_cases h32 : bt s (i : Int) = 32
    · rw [if_pos h32, if_pos c3, if_pos (hb.1 h32), ih (i + 1) (ws ++ [cur]) ⟨#[]⟩ (by omega) (by rw [hlen]; omega) (Nat.zero_le _), List.map_cons, mk_data, List.append_assoc]
      rfl
    · rw [if_neg h32, if_neg (fun h => h32 (hb.2 h)), if_pos c4, if_pos c5, if_pos c6, if_pos c7, if_pos c8]
      have hset : (ws ++ [cur]).set ws.length (cur ++ s.extract i (i + 1)) = ws ++ [cur ++ s.extract i (i + 1)] := by
        rw [List.set_append_right _ _ (Nat.le_refl _), Nat.sub_self]
        rfl
      rw [hset, ih (i + 1) ws (cur ++ s.extract i (i + 1)) (by omega) (by omega) (by rw [ByteArray.size_append, hes]; omega), ByteArray.data_append, Array.toList_append, hex]
theorem rcut_eq (s : ByteArray) (hs : s.size ≤ 1000000) : tallboyref18_cut.L s = some ((spl [] s.data.toList).map mk) := by
  rw [tallboyref18_cut.L_eq]
  exact rcut_loop s hs s.size 0 [] ⟨#[]⟩ (by omega) (Nat.le_refl _) (Nat.le_refl _)
end Go.Proofs.YtdgpagocccabdaaDoor.Pl
