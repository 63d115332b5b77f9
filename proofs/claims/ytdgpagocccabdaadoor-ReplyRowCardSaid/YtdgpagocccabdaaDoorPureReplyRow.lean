/- ReplyRow, in plain Lean: results that are written one behind another are read one by one, each as it was, up to the last byte. No condition. -/
import Derived.Test.YtdgpagocccabdaaDoorSayReplyRow
import Derived.Test.YtdgpagocccabdaaDoorRwc
import Derived.DataShut
namespace Go.Proofs.YtdgpagocccabdaaDoor.Pure
open Go Go.RowKit Go.Proofs.YtdgpagocccabdaaDoor.P Go.Proofs.YtdgpagocccabdaaDoor.Lim Go.Proofs.YtdgpagocccabdaaDoor.Pl Go.Proofs.YtdgpagocccabdaaDoorW.PrintWords
set_option linter.unusedVariables false
def Rd (k : Int) (r : S25) (t : ByteArray) : Prop := endsL t ∧ r.f1.length ≤ 100 ∧ ∀ (s : ByteArray) (m : List UInt8), s.size ≤ 1000000 → s.data.toList = t.data.toList ++ m → readV k s = (r.f0, r.f1.map cvH, r.f2, (t.size : Int), 0)
def Ch (k : Int) : List S25 → List UInt8 → Prop
  | [], l => l = []
  | r :: rs, l => ∃ (t : ByteArray) (m : List UInt8), l = t.data.toList ++ m ∧ Rd k r t ∧ Ch k rs m
theorem ch_more (k : Int) (r : S25) (t : ByteArray) (hr : Rd k r t) : ∀ (rs : List S25) (l : List UInt8), Ch k rs l → Ch k (rs ++ [r]) (l ++ t.data.toList)
  | [], l, h => by
    rw [show l = [] from h, List.nil_append, List.nil_append]
    exact ⟨t, [], (List.append_nil _).symm, hr, rfl⟩
  | q :: rs, l, h => by
    obtain ⟨u, m, rfl, hq, hm⟩ := h
    exact ⟨u, m ++ t.data.toList, List.append_assoc _ _ _, hq, ch_more k r t hr rs m hm⟩
theorem row_reads (k : Int) (want : List S25) (hw : want.length ≤ 12) (d : Nat) : ∀ (i : Nat) (s : ByteArray), i + d = want.length → s.size ≤ 1000000 → Ch k (want.drop i) s.data.toList → tallboylaw18_ReplyRow.l2L k s want (i : Int) = some true := by
  induction d with
  | zero =>
    intro i s hi hs hc
    rw [List.drop_eq_nil_of_le (by omega)] at hc
    rw [tallboylaw18_ReplyRow.l2L_eq, if_neg (by omega), toList_data, show s.data.toList = [] from hc]
    rfl
  | succ d ih =>
    intro i s hi hs hc
    have hlt : i < want.length := by omega
    rw [List.drop_eq_getElem_cons hlt] at hc
    obtain ⟨t, m, ht, ⟨he, hl, hr⟩, hm⟩ := hc
    have hv := hr s m hs ht
    have hz : s.size = t.size + m.length := by
      rw [← size_eq, ht, List.length_append, size_eq]
    have e3 : (s.extract (t.size : Int).toNat s.size).data.toList = m := by
      rw [Int.toNat_natCast, from_data, ht, List.drop_left' (size_eq t)]
    have e4 : (s.extract (t.size : Int).toNat s.size).size ≤ 1000000 := by
      rw [← size_eq, e3]
      omega
    have c1 : (i : Int) < (want.length : Int) := by omega
    have c2 : 0 ≤ (i : Int) := by omega
    have c3 : ¬ (t.size : Int) < 1 := by have := he.1; omega
    have c4 : ¬ (t.size : Int) > (s.size : Int) := by omega
    have c5 : 0 ≤ (t.size : Int) := by omega
    have c6 : (t.size : Int) ≤ (s.size : Int) := by omega
    have hW : wrap64 ((i : Int) + 1) = ((i + 1 : Nat) : Int) := (w64 (i := (i : Int) + 1) (by omega) (by omega)).trans (by omega)
    have f := from_eq (want[i]).f0 ((want[i]).f1.map cvH) (want[i]).f2 (by rw [List.length_map]; omega)
    rw [cv_back] at f
    rw [tallboylaw18_ReplyRow.l2L_eq, if_pos c1, read_L k s hs, hv, Option.bind_some]
    dsimp only
    rw [if_pos rfl, if_neg c3, if_neg c4, f, Option.bind_some, if_pos c2, rd25 want i hlt]
    dsimp only
    rw [same_eq _ _ _ (by omega), Option.bind_some, tallboylaw18_ReplyRow.j8L_eq, if_neg (by decide), if_pos c5, if_pos c6, hW]
    exact ih (i + 1) _ (by omega) e4 (by rw [e3]; exact hm)
theorem row_inner (k : Int) (x1 : List S25) (s : ByteArray) (want : List S25) (i : Int) (l : List S47) (n : Int) (hl : l.length ≤ 100) (ho : ∀ y ∈ l, okH y)
    (htail : ∀ (acc : List S47) (j : Int), (∀ y ∈ acc, okB k y) → acc.length ≤ 100 → tot acc < 20000 → tallboylaw18_ReplyRow.j5L k x1 s want i acc j false 1 l n = some true) (d : Nat) :
    ∀ (j : Nat) (acc : List S47), j + d = l.length → acc.length = j → (∀ y ∈ acc, okB k y) → tot acc + tot (l.drop j) < 20000 → tallboylaw18_ReplyRow.l1L k x1 s want i acc (j : Int) 1 l n = some true := by
  induction d with
  | zero =>
    intro j acc hj ha hok ht
    rw [tallboylaw18_ReplyRow.l1L_eq, if_neg (by omega)]
    exact htail acc _ hok (by omega) (by omega)
  | succ d ih =>
    intro j acc hj ha hok ht
    have hlt : j < l.length := by omega
    rw [List.drop_eq_getElem_cons hlt] at ht
    obtain ⟨y, hy⟩ : ∃ y, y = l[j] := ⟨_, rfl⟩
    have hm : y ∈ l := by rw [hy]; exact List.getElem_mem hlt
    rw [← hy] at ht
    have ht : tot acc + (1 + y.f0.size + y.f2.size + tot (l.drop (j + 1))) < 20000 := ht
    have c1 : (j : Int) < (l.length : Int) := by omega
    have c2 : 0 ≤ (j : Int) := by omega
    have hW : wrap64 ((j : Int) + 1) = ((j + 1 : Nat) : Int) := (w64 (i := (j : Int) + 1) (by omega) (by omega)).trans (by omega)
    rw [tallboylaw18_ReplyRow.l1L_eq, if_pos c1, show ((1 : Int) == 1) = true from rfl, tallboylaw18_ReplyRow.j5L_eq, if_pos rfl, if_pos c2, if_pos c1, rd47 l j hlt, ← hy, rkey_eq, Option.bind_some]
    cases hk : keyP y.f0 with
    | false => rw [if_neg (by decide), tallboylaw18_ReplyRow.j6L_eq, if_pos rfl]
    | true =>
      rw [if_pos rfl]
      by_cases hv : y.f2.size ≤ 2000
      · obtain ⟨o1, o2⟩ := cut_ok k y (ho y hm) hk hv
        have next := ih (j + 1) (acc ++ [cutH k y]) (by omega) (by rw [List.length_append, List.length_singleton]; omega) (fun z hz => by
          rcases List.mem_append.1 hz with h | h
          · exact hok z h
          · rw [List.mem_singleton.1 h]
            exact o1) (by rw [tot_app, o2]; omega)
        rw [decide_eq_false (show ¬ ((y.f2.size : Int) > 2000) by omega), tallboylaw18_ReplyRow.j6L_eq, if_neg (by decide), shows_eq, Option.bind_some, hW]
        clear hW
        unfold cutH at next
        cases hs : shK k with
        | true =>
          rw [hs, if_pos rfl] at next
          rw [if_pos rfl, if_pos (by omega)]
          exact next
        | false =>
          rw [hs, if_neg (by decide)] at next
          rw [if_neg (by decide), if_pos (by omega)]
          exact next
      · rw [decide_eq_true (show ((y.f2.size : Int) > 2000) by omega), tallboylaw18_ReplyRow.j6L_eq, if_pos rfl]
def okR (r : S25) : Prop := r.f1.length < 2932031007402 ∧ (∀ y ∈ r.f1, y.f0.size ≤ 140737488351232 ∧ y.f2.size ≤ 140737488351232) ∧ (∀ y ∈ r.f1, okH y) ∧ 0 ≤ r.f2 ∧ r.f2 < 18446744073709551616
theorem row_j2 (k : Int) (x1 : List S25) (s : ByteArray) (want : List S25) (i z1 : Int) (z0 : List S47) (z2 : Int) : tallboylaw18_ReplyRow.j2L k x1 s want i true z1 z0 z2 = some true := by
  rw [tallboylaw18_ReplyRow.j2L_eq, if_pos rfl]
theorem row_writes (k : Int) (x1 : List S25) (hx : ∀ r ∈ x1, okR r) (d : Nat) : ∀ (i : Nat) (s : ByteArray) (want : List S25), i + d = 12 → want.length = i → s.size ≤ 40000 * i → Ch k want s.data.toList → tallboylaw18_ReplyRow.l0L k x1 s want (i : Int) = some true := by
  induction d with
  | zero =>
    intro i s want hi hw hs hc
    have stop : tallboylaw18_ReplyRow.j1L k x1 s want (i : Int) false = some true := by
      rw [tallboylaw18_ReplyRow.j1L_eq, if_neg (by decide)]
      exact row_reads k want (by omega) want.length 0 s (by omega) (by omega) (by rw [List.drop_zero]; exact hc)
    rw [tallboylaw18_ReplyRow.l0L_eq, decide_eq_false (show ¬ (i : Int) < 12 by omega)]
    split <;> exact stop
  | succ d ih =>
    intro i s want hi hw hs hc
    have stop : tallboylaw18_ReplyRow.j1L k x1 s want (i : Int) false = some true := by
      rw [tallboylaw18_ReplyRow.j1L_eq, if_neg (by decide)]
      exact row_reads k want (by omega) want.length 0 s (by omega) (by omega) (by rw [List.drop_zero]; exact hc)
    rw [tallboylaw18_ReplyRow.l0L_eq]
    by_cases h1 : i < x1.length
    · have c1 : (i : Int) < (x1.length : Int) := by omega
      have c2 : 0 ≤ (i : Int) := by omega
      rw [if_pos c1, decide_eq_true (show (i : Int) < 12 by omega), tallboylaw18_ReplyRow.j1L_eq, if_pos rfl, if_pos c2, if_pos c1, rd25 x1 i h1]
      obtain ⟨r, hr⟩ : ∃ r, r = x1[i] := ⟨_, rfl⟩
      have hm : r ∈ x1 := by rw [hr]; exact List.getElem_mem h1
      rw [← hr]
      obtain ⟨o1, o2, o3, o4, o5⟩ := hx r hm
      obtain ⟨g, hg, hf⟩ := great_tot r.f0 r.f1 r.f2 o1 o2
      rw [hg, Option.bind_some]
      cases g with
      | true => rw [if_pos rfl]; exact row_j2 ..
      | false =>
        have ht := hf rfl
        rw [if_neg (by decide)]
        by_cases a1 : r.f0 < 1
        · rw [if_pos a1]; exact row_j2 ..
        · rw [if_neg a1]
          by_cases a2 : r.f0 > 12
          · rw [if_pos a2]; exact row_j2 ..
          · rw [if_neg a2]
            by_cases a3 : r.f1.length ≤ 100
            · rw [decide_eq_false (show ¬ ((r.f1.length : Int) > 100) by omega), tallboylaw18_ReplyRow.j2L_eq, if_neg (by decide)]
              have fine : ∀ n : Int, 0 ≤ n → n < 18446744073709551616 → (r.f0 ≠ 7 → n = 0) → tallboylaw18_ReplyRow.j3L k x1 s want (i : Int) r.f0 r.f1 n = some true := by
                intro n n0 n1 n7
                have tail : ∀ (acc : List S47) (j : Int), (∀ y ∈ acc, okB k y) → acc.length ≤ 100 → tot acc < 20000 → (r.f0 ≠ 1 → acc = []) → tallboylaw18_ReplyRow.j5L k x1 s want (i : Int) acc j false r.f0 r.f1 n = some true := by
                  intro acc j b1 b2 b3 b4
                  obtain ⟨t, t1, t2, t3⟩ := read_back k r.f0 n acc (by omega) (by omega) n0 n1 n7 b4 b1 b2 b3
                  have hz := t2.2.1
                  have d1 : want.length < 3518437208883 := by omega
                  have d2 : acc.length < 2932031007402 := by omega
                  have d3 : s.size + t.size ≤ 9223372036854775807 := by omega
                  have hW : wrap64 ((i : Int) + 1) = ((i + 1 : Nat) : Int) := (w64 (i := (i : Int) + 1) (by omega) (by omega)).trans (by omega)
                  rw [tallboylaw18_ReplyRow.j5L_eq, if_neg (by decide), if_pos d1, to_eq r.f0 acc n d2, Option.bind_some]
                  dsimp only
                  rw [t1, Option.bind_some, if_pos d3, hW]
                  clear hW
                  refine ih (i + 1) _ _ (by omega) (by rw [List.length_append, List.length_singleton]; omega) (by rw [ByteArray.size_append]; omega) ?_
                  rw [ByteArray.data_append, Array.toList_append]
                  exact ch_more k ⟨r.f0, acc, n⟩ t ⟨t2, b2, t3⟩ want _ hc
                rw [tallboylaw18_ReplyRow.j3L_eq]
                by_cases h7 : r.f0 = 1
                · rw [h7]
                  rw [h7] at tail
                  exact row_inner k x1 s want (i : Int) r.f1 n a3 o3 (fun acc j b1 b2 b3 => tail acc j b1 b2 b3 (fun e => absurd rfl e)) r.f1.length 0 [] (by omega) rfl (fun y hy => by cases hy) (by show 0 + tot (r.f1.drop 0) < 20000; rw [List.drop_zero]; omega)
                · have e1 : (r.f0 == 1) = false := beq_eq_false_iff_ne.2 h7
                  rw [tallboylaw18_ReplyRow.l1L_eq, e1]
                  have := tail [] 0 (fun y hy => by cases hy) (Nat.zero_le _) (by decide) (fun _ => rfl)
                  split <;> exact this
              by_cases h7 : r.f0 = 7
              · rw [if_pos h7]
                exact fine r.f2 o4 o5 (fun h => absurd h7 h)
              · rw [if_neg h7]
                exact fine 0 (Int.le_refl _) (by decide) (fun _ => rfl)
            · rw [decide_eq_true (show ((r.f1.length : Int) > 100) by omega)]; exact row_j2 ..
    · rw [if_neg (by omega)]
      exact stop
theorem ReplyRow : replyRow.Pure := by
  intro k x1 hk hx
  obtain ⟨_, _, hx⟩ := hx
  refine (tallboylaw18_ReplyRow.Llm k x1).rounds ?_
  rw [tallboylaw18_ReplyRow.L_eq, works18, Option.bind_some, if_pos rfl]
  refine row_writes k x1 (fun r hr => ?_) 12 0 ⟨#[]⟩ [] (by omega) rfl (Nat.le_refl _) rfl
  obtain ⟨_, ⟨hb, _, hw⟩, hn⟩ := hx r hr
  have hn : 0 ≤ r.f2 ∧ r.f2 ≤ 18446744073709551615 := (Lit.wf_int_iff .u64 r.f2).1 hn
  rw [replyRow.bytesOf47] at hb
  refine ⟨by omega, fun y hy => ⟨(hw y hy).1, (hw y hy).2.2.1⟩, fun y hy => ?_, hn.1, by omega⟩
  obtain ⟨_, h1, _, h3⟩ := hw y hy
  have q1 : 0 ≤ y.f1 ∧ y.f1 ≤ 4294967295 := (Lit.wf_int_iff .u32 y.f1).1 h1
  have q3 : 0 ≤ y.f3 ∧ y.f3 ≤ 18446744073709551615 := (Lit.wf_int_iff .u64 y.f3).1 h3
  exact ⟨by omega, by omega⟩
end Go.Proofs.YtdgpagocccabdaaDoor.Pure
