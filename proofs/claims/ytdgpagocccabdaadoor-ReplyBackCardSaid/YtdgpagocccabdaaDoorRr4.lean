/- A hit at the front of bytes, by the program: its line's words and what is behind. Plain Lean; conditions: texts of at most 1000000 bytes. -/
import Derived.Test.YtdgpagocccabdaaDoorRr3
namespace Go.Proofs.YtdgpagocccabdaaDoor.Pl
set_option linter.unusedVariables false
set_option linter.unusedSimpArgs false
open Go Go.RowKit Go.Proofs.YtdgpagocccabdaaDoor.P Go.Proofs.YtdgpagocccabdaaDoor.Lim Go.Proofs.YtdgpagocccabdaaDoorW.PrintWords
theorem spl_len : ∀ (l cur : List UInt8), ∀ x ∈ spl cur l, x.length ≤ cur.length + l.length := by
  intro l
  induction l with
  | nil =>
    intro cur x hx
    rw [spl] at hx
    obtain rfl := List.mem_singleton.1 hx
    omega
  | cons c t ih =>
    intro cur x hx
    rw [spl] at hx
    rw [List.length_cons]
    split at hx
    · rcases List.mem_cons.1 hx with rfl | h
      · omega
      · have := ih [] x h
        rw [List.length_nil] at this
        omega
    · have := ih (cur ++ [c]) x hx
      rw [List.length_append, List.length_singleton] at this
      omega
theorem spl_cnt : ∀ (l cur : List UInt8), (spl cur l).length ≤ l.length + 1 := by
  intro l
  induction l with
  | nil => intro cur; rw [spl]; simp
  | cons c t ih =>
    intro cur
    rw [spl, List.length_cons]
    split
    · rw [List.length_cons]
      have := ih []
      omega
    · have := ih (cur ++ [c])
      omega
/-- The words of a line. -/
def wds (ln : ByteArray) : List ByteArray := (spl [] ln.data.toList).map mk
/-- .. and the word that stands for a number that is not shown. -/
def w5 (k : Int) (ln : ByteArray) : List ByteArray := if shK k = true then wds ln else wds ln ++ [⟨#[48]⟩]
theorem rdOf_le (w : List ByteArray) (n : Nat) (h : ∀ x ∈ w, x.size ≤ n) (i : Int) : (rdOf ByteArray.empty w i).size ≤ n := by
  unfold rdOf
  rw [List.getD_eq_getElem?_getD]
  cases hq : w[i.toNat]? with
  | none => exact Nat.zero_le _
  | some x => exact h x (List.mem_of_getElem? hq)
theorem wds_le (ln : ByteArray) : ∀ x ∈ wds ln, x.size ≤ ln.size := by
  intro x hx
  obtain ⟨y, hy, rfl⟩ := List.mem_map.1 hx
  have := spl_len ln.data.toList [] y hy
  rw [List.length_nil, size_eq] at this
  show y.toArray.size ≤ _
  rw [List.size_toArray]
  omega
theorem w5_le (k : Int) (ln : ByteArray) (h : ln.size ≤ 1000000) : ∀ i : Int, (rdOf ByteArray.empty (w5 k ln) i).size ≤ 1000000 := by
  refine rdOf_le _ _ fun x hx => ?_
  unfold w5 at hx
  split at hx
  · have := wds_le ln x hx; omega
  · rcases List.mem_append.1 hx with h1 | h1
    · have := wds_le ln x h1; omega
    · obtain rfl := List.mem_singleton.1 h1
      decide
def lineOf (s : ByteArray) : ByteArray := s.extract 0 (ixE s).toNat
def behind (s : ByteArray) : ByteArray := s.extract ((ixE s).toNat + 2) s.size
def hitV (k : Int) (s : ByteArray) : ByteArray × Int × ByteArray × Int × ByteArray × Bool := if 0 ≤ ixE s ∧ (lineOf s).size ≤ 200 then hitW (w5 k (lineOf s)) (behind s) else zh
theorem hit_eq (k : Int) (s : ByteArray) (hs : s.size ≤ 1000000) : reply_hit.L k s = some (hitV k s) := by
  unfold hitV
  rw [reply_hit.L_eq, cut_eq s hs]
  by_cases h0 : 0 ≤ ixE s
  · rw [if_pos h0, Option.bind_some]
    dsimp only
    rw [if_pos rfl, reply_hit.j0L_eq]
    show (if decide (((lineOf s).size : Int) > 200) = true then _ else _) = _
    by_cases h2 : (lineOf s).size ≤ 200
    · have hb : (behind s).size ≤ 1000000 := by unfold behind; rw [ByteArray.size_extract]; omega
      rw [decide_eq_false (show ¬ (((lineOf s).size : Int) > 200) by omega), if_neg (by decide), if_pos ⟨h0, h2⟩, show strings_Split.f (s.extract 0 (ixE s).toNat) ⟨#[32]⟩ = some (wds (lineOf s)) from split_eq (lineOf s) (by omega), Option.bind_some, shows_eq, Option.bind_some]
      have j := j1_eq (behind s) (w5 k (lineOf s)) hb (w5_le k (lineOf s) (by omega))
      cases hk : shK k with
      | true =>
        rw [if_pos rfl]
        unfold w5 at j
        rw [if_pos hk] at j
        unfold w5
        rw [if_pos hk]
        exact j
      | false =>
        have hn : (wds (lineOf s)).length < 8796093022208 := by
          have := spl_cnt (lineOf s).data.toList []
          rw [size_eq] at this
          unfold wds
          rw [List.length_map]
          omega
        unfold w5 at j ⊢
        rw [hk] at j ⊢
        rw [if_neg (by decide)] at j
        rw [if_neg (by decide), if_pos hn, if_neg (by decide)]
        exact j
    · rw [decide_eq_true (show ((lineOf s).size : Int) > 200 by omega), if_pos rfl, if_neg (fun h => h2 h.2)]
      rfl
  · rw [if_neg h0, if_neg (fun h => h0 h.1), Option.bind_some]
    dsimp only
    rw [if_neg (by decide), reply_hit.j0L_eq, if_pos rfl]
    rfl
end Go.Proofs.YtdgpagocccabdaaDoor.Pl
