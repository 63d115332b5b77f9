/- What line.Parse says comes to one of nine verdicts; and a command is the same as itself. Plain Lean; no condition. -/
import Derived.Test.YtbfgopinbpbddaaDoorWds
import Derived.Test.YtbfgopinbpbddaaDoorLwr
import Derived.Test.YtbfgopinbpbddaaDoorDg3
import Derived.Test.YtbfgopinbpbddaaDoorPar
import Derived.Test.YtbfgopinbpbddaaDoorLmS
section
namespace Go.Proofs.YtbfgopinbpbddaaDoor.Pl
set_option linter.unusedVariables false
open Go Go.RowKit Go.Proofs.YtbfgopinbpbddaaDoor.P Go.Proofs.YtbfgopinbpbddaaDoor.Lim Go.Proofs.YtbfgopinbpbddaaDoorW.PrintWords
def okL (l : List UInt8) : Prop := l ≠ [] ∧ ∀ b ∈ l, b ≠ 32
theorem splitB_words : ∀ (ws : List (List UInt8)) (cur : List UInt8), cur ≠ [] → (∀ w ∈ ws, okL w) → splitB cur (Lib.joinTail [32] ws) = cur :: ws
  | [], cur, hc, _ => by simp [Lib.joinTail, splitB, hc]
  | w :: ws, cur, hc, h => by
    obtain ⟨h1, h2⟩ := h w (List.mem_cons_self ..)
    have ih := splitB_words ws w h1 (fun x hx => h x (List.mem_cons_of_mem _ hx))
    show splitB cur (32 :: (w ++ Lib.joinTail [32] ws)) = _
    rw [splitB, if_pos rfl, if_neg hc, splitB_more _ _ _ h2, List.nil_append, ih]
theorem tl_words (n : ByteArray) (ws : List ByteArray) (hn : okL n.data.toList) (hw : ∀ x ∈ ws, okL x.data.toList) : Lib.goFieldsP blankP (tl n ws) = n :: ws := by
  have h := words_split (tl n ws)
  rw [tl_data, splitB_more _ _ _ hn.2, List.nil_append, splitB_words _ _ hn.1 (fun x hx => by
    obtain ⟨y, hy, rfl⟩ := List.mem_map.1 hx
    exact hw y hy)] at h
  exact (List.map_inj_right (fun x y (hxy : x.data.toList = y.data.toList) => ba_ext hxy)).1 (h.trans rfl)
theorem okL_key {x : ByteArray} (h : keyP x = true) : okL x.data.toList := by
  unfold keyP at h
  rw [Bool.and_eq_true] at h
  have h1 := of_decide_eq_true h.1
  refine ⟨fun he => ?_, fun b hb h32 => ?_⟩
  · have := size_eq x
    rw [he] at this
    simp at this
    omega
  · have h2 := List.all_eq_true.1 h.2 b hb
    rw [h32] at h2
    exact absurd h2 (by decide)
theorem okL_dg {l : List UInt8} (h : l.all digits_Parse.dg = true) (h0 : l ≠ []) : okL l := ⟨h0, fun b hb h32 => by
  have h2 := List.all_eq_true.1 h b hb
  rw [h32] at h2
  exact absurd h2 (by decide)⟩
theorem okL_text (u : Nat) : okL (textV u).data.toList := okL_dg (dec_all u) (dec_ne u)
theorem okL_stext (v : Int) : okL (stextV v).data.toList := by
  by_cases h : v < 0
  · rw [stext_neg v h]
    have e : ((⟨#[45]⟩ : ByteArray) ++ textV (-v).toNat).data.toList = 45 :: (textV (-v).toNat).data.toList := by simp
    rw [e]
    obtain ⟨h1, h2⟩ := okL_text (-v).toNat
    refine ⟨by simp, fun b hb => ?_⟩
    rcases List.mem_cons.1 hb with rfl | hb
    · decide
    · exact h2 b hb
  · rw [stext_pos v (by omega)]
    exact okL_text _
theorem okL_nrp : okL nrp.data.toList := ⟨by decide, by decide⟩
theorem kst_stext (v : Int) (h0 : -9223372036854775808 ≤ v) (h1 : v ≤ 9223372036854775807) : kst (stextV v) = (v, 0) := sgn_dec v h0 h1
theorem kpr_text (u : Nat) (h : u < 18446744073709551616) : kpr (textV u) = ((u : Int), 0) := prs_dec u h
end Go.Proofs.YtbfgopinbpbddaaDoor.Pl
end
section
namespace Go.Proofs.YtbfgopinbpbddaaDoor.Pl
set_option linter.unusedVariables false
open Go Go.RowKit Go.Proofs.YtbfgopinbpbddaaDoor.P Go.Proofs.YtbfgopinbpbddaaDoor.Lim Go.Proofs.YtbfgopinbpbddaaDoorW.PrintWords
theorem same_loop (k : Int) (keys : List ByteArray) (fl ex : Int) (v : ByteArray) (cas del : Int) (q : Bool) (hn : keys.length ≤ 4611686018427387904) (d : Nat) : ∀ i : Nat, i + d = keys.length → tallboyref17_SameCommands.l0L (i : Int) k keys fl ex v cas del q k keys fl ex v cas del q = some true := by
  induction d with
  | zero =>
    intro i hi
    rw [tallboyref17_SameCommands.l0L_eq, if_neg (by omega)]
    simp
  | succ d ih =>
    intro i hi
    rw [tallboyref17_SameCommands.l0L_eq, if_pos (by omega), if_pos (by omega), if_pos (by omega), if_pos rfl, w64 (by omega) (by omega), show ((i : Int) + 1) = ((i + 1 : Nat) : Int) by omega]
    exact ih (i + 1) (by omega)
theorem same_refl (k : Int) (keys : List ByteArray) (fl ex : Int) (v : ByteArray) (cas del : Int) (q : Bool) (hn : keys.length ≤ 4611686018427387904) : tallboyref17_SameCommands.L k keys fl ex v cas del q k keys fl ex v cas del q = some true := by
  rw [tallboyref17_SameCommands.L_eq, if_pos rfl]
  exact same_loop k keys fl ex v cas del q hn keys.length 0 (by omega)
theorem stores_no {kd : Int} (h : kd ≤ 4 ∨ 10 < kd) : storesB kd = false := decide_eq_false (by omega)
end Go.Proofs.YtbfgopinbpbddaaDoor.Pl
end
