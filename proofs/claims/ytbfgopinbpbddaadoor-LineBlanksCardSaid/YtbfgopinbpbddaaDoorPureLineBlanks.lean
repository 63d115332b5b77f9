/- LineBlanks, in plain Lean: blanks more between words, ahead and behind, change nothing. No condition. -/
import Derived.Test.YtbfgopinbpbddaaDoorSayLineBlanks
import Derived.Test.YtbfgopinbpbddaaDoorLmLineBlanks
import Derived.Test.YtbfgopinbpbddaaDoorTot
import Derived.Test.YtbfgopinbpbddaaDoorWds
import Derived.DataShut
namespace Go.Proofs.YtbfgopinbpbddaaDoor.Pure
open Go Go.RowKit Go.Proofs.YtbfgopinbpbddaaDoor.P Go.Proofs.YtbfgopinbpbddaaDoor.Lim Go.Proofs.YtbfgopinbpbddaaDoor.Pl Go.Proofs.YtbfgopinbpbddaaDoorW.PrintWords
set_option maxRecDepth 100000 in
theorem worksLineBlanks : tallboylaw17_works.L = some true := tallboylaw17_works.Llm.2 200 true (by decide +kernel)
theorem sp2 : ∀ (m cur l : List UInt8), splitB cur (m ++ 32 :: 32 :: l) = splitB cur (m ++ 32 :: l)
  | [], cur, l => by by_cases h : cur = [] <;> simp [splitB, h]
  | b :: m, cur, l => by simp only [List.cons_append, splitB, sp2 m]
theorem spE : ∀ (m cur : List UInt8), splitB cur (m ++ [32]) = splitB cur m
  | [], cur => by by_cases h : cur = [] <;> simp [splitB, h]
  | b :: m, cur => by simp only [List.cons_append, splitB, spE m]
theorem good_len {r : PT} (g : Pl.Good r) : r.2.2.1.length ≤ 4611686018427387904 := by
  cases g with
  | ready kd keys ex del q h1 h2 h3 => exact Nat.le_trans h3 (by decide)
  | wants => simp
  | big => simp
  | bad => simp
  | none_ => simp
theorem lb_end (s : ByteArray) (more : List Int) (t : ByteArray) (hs : s.size ≤ 160) (ht : t.size ≤ 1000) (hI : ∀ l, splitB [] (t.data.toList ++ l) = splitB [] (s.data.toList ++ l)) : tallboylaw17_LineBlanks.l0L s more t (s.size : Int) = some true := by
  have hz0 : ((⟨#[32]⟩ : ByteArray) ++ t).size = 1 + t.size := by rw [ByteArray.size_append]; rfl
  rw [tallboylaw17_LineBlanks.l0L_eq, if_neg (by omega), if_pos (by omega), if_pos (by omega)]
  have hz : (((⟨#[32]⟩ : ByteArray) ++ t) ++ (⟨#[32]⟩ : ByteArray)).size = 1 + t.size + 1 := by rw [ByteArray.size_append, hz0]; rfl
  generalize hT : ((⟨#[32]⟩ : ByteArray) ++ t) ++ (⟨#[32]⟩ : ByteArray) = T at hz ⊢
  have hw : Lib.goFieldsP blankP s = Lib.goFieldsP blankP T := words_of s T (by
    have e : T.data.toList = 32 :: (t.data.toList ++ [32]) := by rw [← hT]; simp
    rw [e, splitB, if_pos rfl, if_pos rfl, hI, spE])
  by_cases h : (T.size : Int) > 160
  · rw [if_pos h, parse_eqL T (by omega)]
    unfold pO
    rw [if_pos (by omega)]
    rfl
  · have e : pO T = pO s := by unfold pO; rw [if_neg (by omega), if_neg (by omega), hw]
    rw [if_neg h, parse_eqL T (by omega), parse_eqL s (by omega), e]
    obtain ⟨r, hr, g⟩ := parse_good s
    have hl := good_len g
    obtain ⟨r0, r1, r2, r3, r4, r5, r6, r7, r8, r9, r10⟩ := r
    rw [hr]
    unfold tallboylaw17_From.f
    simp only [Option.bind_some]
    rw [tallboylaw17_Same.L_eq, if_pos rfl, same_refl _ _ _ _ _ _ _ _ hl]
    simp
theorem lb_n (x : Int) : 0 ≤ wrap64 (Int.tmod (IntKind.u64.wrap x) 3) ∧ wrap64 (Int.tmod (IntKind.u64.wrap x) 3) ≤ 2 := by
  have h0 : 0 ≤ IntKind.u64.wrap x := by rw [IntKind.wrap_u64]; omega
  have h1 := Int.tmod_nonneg 3 h0
  have h2 := Int.tmod_lt_of_pos (IntKind.u64.wrap x) (show (0 : Int) < 3 by decide)
  rw [w64 (by omega) (by omega)]
  omega
theorem lb_loop (s : ByteArray) (more : List Int) (hs : s.size ≤ 160) (d : Nat) : ∀ (i : Nat) (t : ByteArray), i + d = s.size → t.size ≤ 3 * i → (∀ l, splitB [] (t.data.toList ++ l) = splitB [] (s.data.toList.take i ++ l)) → tallboylaw17_LineBlanks.l0L s more t (i : Int) = some true := by
  induction d with
  | zero =>
    intro i t hi ht hI
    obtain rfl : i = s.size := by omega
    exact lb_end s more t hs (by omega) (fun l => by rw [hI, List.take_of_length_le (by rw [size_eq]; exact Nat.le_refl _)])
  | succ d ih =>
    intro i t hi ht hI
    have hl : i < s.data.toList.length := by rw [size_eq]; omega
    have hx : (s.extract (i : Int).toNat (wrap64 ((i : Int) + 1)).toNat).data.toList = [s.data.toList[i]] := by
      rw [w64 (by omega) (by omega), show ((i : Int) + 1).toNat = i + 1 by omega, Int.toNat_natCast]
      have h := drop_bytes s i hl
      have e : (s.extract i (i + 1)).data.toList = (s.data.toList.drop i).take 1 := by simp
      rw [e, h]
      rfl
    have hxz : (s.extract (i : Int).toNat (wrap64 ((i : Int) + 1)).toNat).size = 1 := by rw [← size_eq, hx]; rfl
    generalize hX : s.extract (i : Int).toNat (wrap64 ((i : Int) + 1)).toNat = X at hx hxz
    have hk : s.data.toList.take (i + 1) = s.data.toList.take i ++ [s.data.toList[i]] := by rw [List.take_add_one, List.getElem?_eq_getElem hl]; rfl
    have tail : ∀ t' : ByteArray, t'.size ≤ 3 * i + 2 → (∀ l, splitB [] (t'.data.toList ++ s.data.toList[i] :: l) = splitB [] (s.data.toList.take i ++ s.data.toList[i] :: l)) →
        (if (i : Int) ≤ (wrap64 ((i : Int) + 1)) then (if (wrap64 ((i : Int) + 1)) ≤ (s.size : Int) then (if t'.size + X.size ≤ 9223372036854775807 then (tallboylaw17_LineBlanks.l0L s more (t' ++ X) (wrap64 ((i : Int) + 1))) else none) else none) else none) = some true := by
      intro t' h1 h2
      rw [w64 (by omega) (by omega), if_pos (by omega), if_pos (by omega), if_pos (by omega), show ((i : Int) + 1) = ((i + 1 : Nat) : Int) by omega]
      refine ih (i + 1) _ (by omega) (by rw [ByteArray.size_append]; omega) (fun l => ?_)
      rw [show (t' ++ X).data.toList = t'.data.toList ++ X.data.toList by simp, hx, hk, List.append_assoc, List.append_assoc]
      exact h2 l
    rw [tallboylaw17_LineBlanks.l0L_eq, if_pos (by omega), if_pos (by omega)]
    have no : tallboylaw17_LineBlanks.j2L s more t (i : Int) false = some true := by
      rw [tallboylaw17_LineBlanks.j2L_eq, if_neg (by decide), if_pos (by omega), hX]
      exact tail t (by omega) (fun l => hI _)
    by_cases hb : bt s (i : Int) = 32
    · rw [if_pos hb]
      by_cases hm : (i : Int) < (more.length : Int)
      · rw [decide_eq_true hm, tallboylaw17_LineBlanks.j2L_eq, if_pos rfl]
        have h32 : s.data.toList[i] = 32 := by
          rw [bt_get s i hl] at hb
          exact UInt8.toNat_inj.1 (show (s.data.toList[i]).toNat = 32 by omega)
        have hn := lb_n (rd more (i : Int))
        have go : ∀ (e k : Nat) (t' : ByteArray), k ≤ 2 → ((k + e : Nat) : Int) = wrap64 (Int.tmod (IntKind.u64.wrap (rd more (i : Int))) 3) → t'.size ≤ 3 * i + k → (∀ l, splitB [] (t'.data.toList ++ 32 :: l) = splitB [] (s.data.toList.take i ++ 32 :: l)) → tallboylaw17_LineBlanks.l1L s more t' (i : Int) (k : Int) = some true := by
          intro e
          induction e with
          | zero =>
            intro k t' hk2 he hz hJ
            rw [tallboylaw17_LineBlanks.l1L_eq, if_pos (by omega), if_pos hm, if_neg (by omega), hX]
            exact tail t' (by omega) (fun l => by rw [h32]; exact hJ l)
          | succ e ihe =>
            intro k t' hk2 he hz hJ
            rw [tallboylaw17_LineBlanks.l1L_eq, if_pos (by omega), if_pos hm, if_pos (by omega), if_pos (by omega), w64 (by omega) (by omega), show ((k : Int) + 1) = ((k + 1 : Nat) : Int) by omega]
            refine ihe (k + 1) _ (by omega) (by omega) (by rw [ByteArray.size_append]; show t'.size + 1 ≤ _; omega) (fun l => ?_)
            rw [show (t' ++ (⟨#[32]⟩ : ByteArray)).data.toList = t'.data.toList ++ [32] by simp, List.append_assoc]
            show splitB [] (t'.data.toList ++ 32 :: 32 :: l) = _
            rw [sp2]
            exact hJ l
        exact go (wrap64 (Int.tmod (IntKind.u64.wrap (rd more (i : Int))) 3)).toNat 0 t (by omega) (by omega) (by omega) (fun l => hI _)
      · rw [decide_eq_false hm]
        exact no
    · rw [if_neg hb]
      exact no
theorem LineBlanks : lineBlanks.Pure := by
  intro s more hs hm
  refine (tallboylaw17_LineBlanks.Llm s more).rounds ?_
  rw [tallboylaw17_LineBlanks.L_eq, worksLineBlanks, Option.bind_some, if_pos rfl]
  have h0 : ∀ b, s.size ≤ 160 → tallboylaw17_LineBlanks.j0L s more b = some true := by
    intro b hb
    rw [tallboylaw17_LineBlanks.j0L_eq]
    cases b with
    | true => rw [if_pos rfl]
    | false =>
      rw [if_neg (by decide)]
      exact lb_loop s more hb s.size 0 _ (by omega) (Nat.le_refl 0) (fun l => rfl)
  by_cases hb : (s.size : Int) > 160
  · rw [if_pos hb, tallboylaw17_LineBlanks.j0L_eq, if_pos rfl]
  · rw [if_neg hb]
    exact h0 _ (by omega)
end Go.Proofs.YtbfgopinbpbddaaDoor.Pure
