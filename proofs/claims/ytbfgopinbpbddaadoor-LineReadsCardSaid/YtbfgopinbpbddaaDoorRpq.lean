/- What the document says of a line (tallboyref17.Parse) is what line.Parse says: those that store, those with a number or a key of their own, and the whole. Plain Lean; no condition. -/
import Derived.Test.YtbfgopinbpbddaaDoorRps
namespace Go.Proofs.YtbfgopinbpbddaaDoor.Pl
set_option linter.unusedVariables false
open Go Go.RowKit Go.Proofs.YtbfgopinbpbddaaDoor.P Go.Proofs.YtbfgopinbpbddaaDoor.Lim Go.Proofs.YtbfgopinbpbddaaDoorW.PrintWords
def swV (n : Int) : Int := if n ≤ 2147483647 then n + 2 else 0
def j3V (kd : Int) (a : ByteArray) (q : Bool) (n fl x xe cas : Int) (no : Bool) (sw : Int) : PT :=
  if no = true then (4, 0, [], 0, 0, ⟨#[]⟩, 0, 0, false, 0, sw)
  else if xe = 0 then (if n > 2000 then (8, kd, [a], 0, 0, ⟨#[]⟩, 0, 0, q, 0, sw) else if kd = 8 then (2, kd, [a], 0, 0, ⟨#[]⟩, cas, 0, q, n, 0) else if kd = 9 then (2, kd, [a], 0, 0, ⟨#[]⟩, cas, 0, q, n, 0) else (2, kd, [a], fl % 4294967296, x, ⟨#[]⟩, cas, 0, q, n, 0))
  else (7, 0, [], 0, 0, ⟨#[]⟩, 0, 0, false, 0, sw)
theorem j3_eq (kd : Int) (w0 a : ByteArray) (l : List ByteArray) (q : Bool) (n fl x xe cas : Int) (no : Bool) (sw : Int) :
    tallboyref17_stores.j3L kd (w0 :: a :: l) q n fl x xe cas no 0 0 0 0 (⟨#[]⟩ : ByteArray) 0 0 false 0 sw = some (j3V kd a q n fl x xe cas no sw) := by
  rw [tallboyref17_stores.j3L_eq]
  unfold j3V
  rw [if_pos (show 1 < ((w0 :: a :: l).length : Int) by simp; omega), rrd1]
  cases no <;> by_cases h : xe = 0 <;> by_cases h2 : n > 2000 <;> by_cases h8 : kd = 8 <;> by_cases h9 : kd = 9 <;> simp [h, h2, h8, h9]
theorem j2_eq (kd : Int) (w0 a : ByteArray) (l : List ByteArray) (q : Bool) (n fl fe x xe cas ce sw : Int) :
    tallboyref17_stores.j2L kd (w0 :: a :: l) q n fl fe x xe cas ce 0 0 0 0 (⟨#[]⟩ : ByteArray) 0 0 false 0 sw = some (j3V kd a q n fl x xe cas (!keyP a || (fe != 0 || decide ((4294967295 : Int) < fl)) || ce != 0) sw) := by
  rw [tallboyref17_stores.j2L_eq, if_pos (show 1 < ((w0 :: a :: l).length : Int) by simp; omega), rrd1, rkey_eq, Option.bind_some]
  simp only [j3_eq]
  cases keyP a
  · rw [if_neg (by decide)]
    rfl
  · rw [if_pos rfl]
    by_cases h : fe = 0
    · rw [if_pos h]
      by_cases h2 : fl ≥ 4294967296
      · rw [if_pos h2, show decide ((4294967295 : Int) < fl) = true from decide_eq_true (by omega)]
        simp
      · rw [if_neg h2, show decide ((4294967295 : Int) < fl) = false from decide_eq_false (by omega), h]
        simp
    · rw [if_neg h, show (fe != 0) = true from bne_iff_ne.2 h]
      simp
theorem fin_eq (kd : Int) (a : ByteArray) (q : Bool) (n fl x xe cas : Int) (b1 b2 b3 : Bool) :
    line_stores.fin kd q a n fl x cas (wrV (xe != 0) 7 (wrV b3 4 (wrV b2 4 (wrV b1 4 0)))) = j3V kd a q n fl x xe cas (b1 || b2 || b3) (swV n) := by
  have h0 : wrV b3 4 (wrV b2 4 (wrV b1 4 0)) = if (b1 || b2 || b3) = true then 4 else 0 := by
    cases b1 <;> cases b2 <;> cases b3 <;> rfl
  rw [h0]
  unfold line_stores.fin j3V wrV swV
  cases (b1 || b2 || b3) <;> by_cases h : xe = 0 <;> by_cases h2 : n > 2000 <;> by_cases h8 : kd = 8 <;> by_cases h9 : kd = 9 <;> simp [h, h2, h8, h9]
theorem rstores2_eq (kd : Int) (q : Bool) (w0 a b e d : ByteArray) (rest rest2 : List ByteArray) (hr : kd = 10 → ∃ x y z, rest = x :: y ∧ rest2 = x :: z) (hw : ∀ x ∈ a :: b :: e :: d :: rest, x.size ≤ 1000000) :
    tallboyref17_stores.L kd (w0 :: a :: b :: e :: d :: rest) q = storesO kd q (a :: b :: e :: d :: rest2) := by
  rw [tallboyref17_stores.L_eq, if_pos (by simp; omega), rrd4, rsg d (hw d (by simp)), Option.bind_some]
  unfold storesO
  dsimp only
  have hno : tallboyref17_stores.j0L kd (w0 :: a :: b :: e :: d :: rest) q (kst d).1 true = some (zP 5) := by
    rw [tallboyref17_stores.j0L_eq, if_pos rfl]
    rfl
  by_cases he : (kst d).2 = 0
  · rw [if_pos he]
    by_cases hn : 0 ≤ (kst d).1
    · rw [if_pos ⟨he, hn⟩, show decide ((kst d).1 < 0) = false from decide_eq_false (by omega), tallboyref17_stores.j0L_eq, if_neg (by decide)]
      have hj1 : tallboyref17_stores.j1L kd (w0 :: a :: b :: e :: d :: rest) q (kst d).1 0 0 0 0 (⟨#[]⟩ : ByteArray) 0 0 false 0 (swV (kst d).1) = (casO kd (wrV ((kpr b).2 != 0 || decide ((4294967295 : Int) < (kpr b).1)) 4 (wrV (!keyP a) 4 0)) rest2).bind fun cv => some (line_stores.fin kd q a (kst d).1 (kpr b).1 (kst e).1 cv.1 (wrV ((kst e).2 != 0) 7 cv.2)) := by
        rw [tallboyref17_stores.j1L_eq, if_pos (by simp; omega), rrd2, rpr b (hw b (by simp)), Option.bind_some, if_pos (by simp; omega), rrd3, rsg e (hw e (by simp)), Option.bind_some]
        unfold casO
        by_cases h10 : kd = 10
        · obtain ⟨x, y, z, rfl, rfl⟩ := hr h10
          rw [if_pos h10, if_pos h10, if_pos (by simp; omega), rrd5, rpr x (hw x (by simp)), Option.bind_some, j2_eq]
          dsimp only
          rw [Option.bind_some, fin_eq]
        · rw [if_neg h10, if_neg h10, j2_eq, Option.bind_some]
          refine congrArg some ?_
          have hf := fin_eq kd a q (kst d).1 (kpr b).1 (kst e).1 (kst e).2 0 (!keyP a) ((kpr b).2 != 0 || decide ((4294967295 : Int) < (kpr b).1)) false
          rw [show ∀ v : Int, wrV false 4 v = v from fun v => rfl] at hf
          exact hf.symm
      unfold swV at hj1
      by_cases hs : (kst d).1 ≤ 2147483647
      · rw [if_pos hs, w64 (by omega) (by omega)]
        rw [if_pos hs] at hj1
        exact hj1
      · rw [if_neg hs]
        rw [if_neg hs] at hj1
        exact hj1
    · rw [if_neg (fun h => hn h.2), show decide ((kst d).1 < 0) = true from decide_eq_true (by omega), hno]
  · rw [if_neg he, if_neg (fun h => he h.1), hno]
/-! the others -/
theorem rown_eq (kd : Int) (q : Bool) (w0 : ByteArray) (l l2 : List ByteArray) (h10 : 10 < kd) (h15 : kd ≤ 15) (hl : kd ≠ 15 → ∃ a t t2, l = a :: t ∧ l2 = a :: t2 ∧ (kd ≠ 11 → ∃ x t3 t4, t = x :: t3 ∧ t2 = x :: t4)) (hw : ∀ x ∈ l, x.size ≤ 1000000) :
    tallboyref17_Parse.j1L (w0 :: l) kd q false = ownO kd q l2 := by
  rw [tallboyref17_Parse.j1L_eq, if_neg (by decide), rstores_eq, Option.bind_some, stores_no (.inr h10), if_neg (by decide)]
  unfold ownO
  by_cases hk : kd = 15
  · rw [if_pos hk, if_pos hk]
    rfl
  rw [if_neg hk, if_neg hk]
  obtain ⟨a, t, t2, rfl, rfl, ht⟩ := hl hk
  rw [if_pos (by simp; omega), rrd1, rkey_eq, Option.bind_some]
  dsimp only
  by_cases h11 : kd = 11
  · rw [if_pos h11]
    cases keyP a
    · rw [if_neg (by decide)]
      rfl
    · rw [if_pos rfl, Option.bind_some, if_neg (by omega), if_neg (by omega), tallboyref17_Parse.j2L_eq, if_neg (fun h => by have := beq_iff_eq.1 h; omega)]
      rfl
  rw [if_neg h11]
  obtain ⟨x, t3, t4, rfl, rfl⟩ := ht h11
  dsimp only
  by_cases h14 : kd = 14
  · rw [if_pos h14]
    cases keyP a
    · rw [if_neg (by decide)]
      rw [show wrV (!false) 4 0 = 4 from rfl, dn_4]
      rfl
    · rw [if_pos rfl, Option.bind_some, if_pos h14, if_pos (by simp; omega), rrd2, rsg x (hw x (by simp)), Option.bind_some, show wrV (!true) 4 0 = 0 from rfl, dn_wr _ 7 (by decide)]
      by_cases he : (kst x).2 = 0
      · rw [if_pos he, if_pos he]
      · rw [if_neg he, if_neg he]
        rfl
  · rw [if_neg h14]
    cases keyP a
    · rw [if_neg (by decide)]
      rw [show wrV (!false) 4 0 = 4 from rfl, dn_4]
      rfl
    · have hj : tallboyref17_Parse.j2L (w0 :: a :: x :: t3) true kd [a] 0 0 (⟨#[]⟩ : ByteArray) 0 0 q = some (dnV (wrV ((kpr x).2 != 0) 6 (wrV (!true) 4 0)) kd [a] 0 (kpr x).1 q) := by
        rw [tallboyref17_Parse.j2L_eq, if_pos rfl, if_pos (by simp; omega), rrd2, rpr x (hw x (by simp)), Option.bind_some, show wrV (!true) 4 0 = 0 from rfl, dn_wr _ 6 (by decide)]
        by_cases he : (kpr x).2 = 0
        · rw [if_pos he, if_pos he]
        · rw [if_neg he, if_neg he]
          rfl
      rw [if_pos rfl, Option.bind_some, if_neg h14]
      by_cases h12 : kd = 12
      · rw [if_pos h12, show (kd == 12) = true from beq_iff_eq.2 h12]
        exact hj
      · rw [if_neg h12, show (kd == 13) = true from beq_iff_eq.2 (by omega)]
        exact hj
theorem need_eq (kd : Int) (h5 : 5 ≤ kd) (h15 : kd ≤ 15) : tallboyref17_need.L kd = some ((line_Parse.nw kd : Int) + 1) := by
  rw [tallboyref17_need.L_eq]
  unfold line_Parse.nw
  by_cases h10 : kd = 10
  · rw [if_pos h10, if_pos h10]
    rfl
  rw [if_neg h10, if_neg h10, rstores_eq, Option.bind_some]
  by_cases h9 : kd ≤ 9
  · rw [if_pos h9, show storesB kd = true from decide_eq_true (by omega), if_pos rfl]
    rfl
  rw [if_neg h9, stores_no (.inr (by omega)), if_neg (by decide)]
  by_cases h11 : kd = 11
  · rw [if_pos h11, if_pos h11]
    rfl
  rw [if_neg h11, if_neg h11]
  by_cases h14 : kd = 14
  · rw [if_pos h14, if_pos (by omega), tallboyref17_need.j0L_eq, if_pos rfl]
    rfl
  rw [if_neg h14]
  by_cases h12 : kd = 12
  · rw [if_pos h12, if_pos (by omega), tallboyref17_need.j0L_eq, if_pos rfl]
    rfl
  rw [if_neg h12, tallboyref17_need.j0L_eq]
  by_cases h13 : kd = 13
  · rw [if_pos (beq_iff_eq.2 h13), if_pos (by omega)]
    rfl
  · rw [if_neg (fun h => h13 (beq_iff_eq.1 h)), if_neg (by omega)]
    rfl
theorem rrest_eq (kd : Int) (q : Bool) (w0 : ByteArray) (wt : List ByteArray) (h5 : 5 ≤ kd) (h15 : kd ≤ 15) (hn : line_Parse.nw kd ≤ wt.length) (hw : ∀ x ∈ wt, x.size ≤ 1000000) :
    tallboyref17_Parse.j1L (w0 :: wt) kd q false = restO kd q (wt.take (line_Parse.nw kd)) := by
  unfold restO
  by_cases h10 : kd ≤ 10
  · rw [if_pos h10, tallboyref17_Parse.j1L_eq, if_neg (by decide), rstores_eq, Option.bind_some, show storesB kd = true from decide_eq_true (by omega), if_pos rfl, eta_eq]
    by_cases hk : kd = 10
    · have e5 : line_Parse.nw kd = 5 := by unfold line_Parse.nw; rw [if_pos hk]
      rw [e5] at hn ⊢
      match wt, hn, hw with
      | a :: b :: e :: d :: x :: y, _, hw => exact rstores2_eq kd q w0 a b e d (x :: y) [x] (fun _ => ⟨x, y, [], rfl, rfl⟩) hw
    · have e4 : line_Parse.nw kd = 4 := by unfold line_Parse.nw; rw [if_neg hk, if_pos (by omega)]
      rw [e4] at hn ⊢
      match wt, hn, hw with
      | a :: b :: e :: d :: rest, _, hw => exact rstores2_eq kd q w0 a b e d rest [] (fun h => absurd h hk) hw
  · rw [if_neg h10]
    refine rown_eq kd q w0 wt _ (by omega) h15 (fun hk => ?_) hw
    by_cases h11 : kd = 11
    · have e1 : line_Parse.nw kd = 1 := by unfold line_Parse.nw; rw [if_neg (by omega), if_neg (by omega), if_pos h11]
      rw [e1] at hn ⊢
      match wt, hn with
      | a :: t, _ => exact ⟨a, t, [], rfl, rfl, fun h => absurd h11 h⟩
    · have e2 : line_Parse.nw kd = 2 := by unfold line_Parse.nw; rw [if_neg (by omega), if_neg (by omega), if_neg h11, if_pos (by omega)]
      rw [e2] at hn ⊢
      match wt, hn with
      | a :: x :: t, _ => exact ⟨a, x :: t, [x], rfl, rfl, fun _ => ⟨x, t, [], rfl, rfl⟩⟩
theorem rparse_line (s : ByteArray) (hs : s.size ≤ 1000000) : tallboyref17_Parse.L s = pO s := by
  rw [tallboyref17_Parse.L_eq]
  unfold pO
  by_cases hb : 160 < s.size
  · rw [if_pos (by omega), if_pos hb]
    rfl
  rw [if_neg (by omega), if_neg hb, rwords_eq s hs, Option.bind_some]
  have hlen := words_len s
  have hsz : ∀ x ∈ Lib.goFieldsP blankP s, x.size ≤ 1000000 := fun x hx => Nat.le_trans (word_le s x hx) hs
  generalize Lib.goFieldsP blankP s = ws at hlen hsz
  unfold wordsO
  match ws, hlen, hsz with
  | [], _, _ =>
    rw [if_pos (by simp)]
    rfl
  | w0 :: wt, hlen, hsz =>
    have hwt : ∀ x ∈ wt, x.size ≤ 1000000 := fun x hx => hsz x (List.mem_cons_of_mem _ hx)
    rw [if_neg (by rw [List.length_cons]; omega), if_pos (by rw [List.length_cons]; omega), rrd0, rkind_eq, Option.bind_some]
    dsimp only
    unfold verb_Kind.f
    rw [Option.bind_some]
    obtain ⟨hk0, hk15⟩ := kind_le w0
    generalize verb_Kind.v w0 16 0 = kd at hk0 hk15
    by_cases h0 : kd = 0
    · rw [if_pos h0, if_pos h0]
      rfl
    rw [if_neg h0, if_neg h0, rreads_d, Option.bind_some]
    rw [List.length_cons] at hlen
    by_cases h4 : kd ≤ 4
    · rw [if_pos h4, if_pos (decide_eq_true (by omega)), eta_eq]
      exact rreads_eq kd w0 wt (by omega) hwt
    rw [if_neg h4, if_neg (by simp; omega), if_neg (by omega), need_eq kd (by omega) hk15, Option.bind_some]
    have hnw : line_Parse.nw kd ≤ 5 := by unfold line_Parse.nw; split <;> (try split) <;> (try split) <;> (try split) <;> omega
    have hr := rrest_eq kd
    generalize hm : line_Parse.nw kd = m at hnw hr
    have no3 : ∀ q, tallboyref17_Parse.j1L (w0 :: wt) kd q true = some (zP 3) := by
      intro q
      rw [tallboyref17_Parse.j1L_eq, if_pos rfl]
      rfl
    rw [show wrap64 ((m : Int) + 1 + 1) = ((m + 2 : Nat) : Int) by rw [w64 (by omega) (by omega)]; omega]
    by_cases hq : wt.length = m + 1
    · have hget : rdOf ByteArray.empty (w0 :: wt) ((m : Int) + 1) = wt.getD m ByteArray.empty := by
        have hlt : m < wt.length := by omega
        rw [show ((m : Int) + 1) = ((m + 1 : Nat) : Int) by omega, rdOf_get _ _ _ (by simp; omega), List.getElem_cons_succ]
        simp [List.getD, hlt]
      rw [if_pos (by simp; omega), if_pos (by omega), if_pos (by simp; omega), hget, tallboyref17_Parse.j0L_eq, if_neg (by simp; omega)]
      have hbeq : ((wt.getD m ByteArray.empty).toList == ([110, 111, 114, 101, 112, 108, 121] : List UInt8)) = decide (wt.getD m ByteArray.empty = NRP) := by
        by_cases hE : wt.getD m ByteArray.empty = NRP
        · rw [decide_eq_true hE, hE, ByteArray.toList_eq]
          rfl
        · rw [decide_eq_false hE]
          refine beq_eq_false_iff_ne.2 (fun hh => hE ((toList_inj _ _).1 (hh.trans ?_)))
          rw [ByteArray.toList_eq]
          rfl
      rw [hbeq]
      by_cases hE : wt.getD m ByteArray.empty = NRP
      · rw [decide_eq_true hE, if_pos ⟨hq, hE⟩]
        exact hr true w0 wt (by omega) hk15 (by omega) hwt
      · rw [decide_eq_false hE, if_neg (fun h => hE h.2), if_neg (by omega)]
        exact no3 false
    · rw [if_neg (by simp; omega), if_neg (fun h => hq h.1), tallboyref17_Parse.j0L_eq]
      by_cases hl : wt.length = m
      · rw [if_pos (by simp; omega), if_pos hl]
        have := hr false w0 wt (by omega) hk15 (by omega) hwt
        rw [List.take_of_length_le (by omega)] at this
        exact this
      · rw [if_neg (by simp; omega), if_neg hl]
        exact no3 false
end Go.Proofs.YtbfgopinbpbddaaDoor.Pl
