/- The request for a command asks for that command, through its bytes; the answer to it has its Op and its Opaque. Conditions: the command's numbers are of their kinds. -/
import Derived.Test.YtdepkgikdmlgiaaReq
import Derived.Test.YtdepkgikdmlgiaaBck
namespace Go.Proofs.Ytdepkgikdmlgiaa.Pl
set_option linter.unusedVariables false
open Go Go.RowKit Go.Proofs.Ytdepkgikdmlgiaa.P Go.Proofs.Ytdepkgikdmlgiaa.Lim Go.Proofs.YtdepkgikdmlgiaaW.PrintWords

theorem ops_all : ((List.range 16).all fun n => [true, false].all fun q => decide (n = 0 ∨ n = 4 ∨ n = 10 ∨ (n = 14 ∧ q = true)) || (decide (opV (askG tabV (n : Int) q) = ((n : Int), q)) && decide (0 ≤ askG tabV (n : Int) q ∧ askG tabV (n : Int) q < 256))) = true := by decide +kernel
theorem ops_back (n : Nat) (h0 : n < 16) (h1 : 1 ≤ n) (h4 : n ≠ 4) (h10 : n ≠ 10) (q : Bool) (h14 : n = 14 → q = false) : opV (askG tabV (n : Int) q) = ((n : Int), q) ∧ 0 ≤ askG tabV (n : Int) q ∧ askG tabV (n : Int) q < 256 := by
  have h := List.all_eq_true.1 ops_all n (List.mem_range.2 h0)
  have hq := List.all_eq_true.1 h q (by cases q <;> simp)
  rw [Bool.or_eq_true, decide_eq_true_eq, Bool.and_eq_true, decide_eq_true_eq, decide_eq_true_eq] at hq
  rcases hq with hq | hq
  · exfalso
    rcases hq with g | g | g | ⟨g, g2⟩
    · omega
    · exact h4 g
    · exact h10 g
    · rw [h14 g] at g2
      cases g2
  · exact hq
theorem numV4_list (v : Int) : (numV 4 v).data.toList = [UInt8.ofNat (v / 256 / 256 / 256 % 256).toNat, UInt8.ofNat (v / 256 / 256 % 256).toNat, UInt8.ofNat (v / 256 % 256).toNat, UInt8.ofNat (v % 256).toNat] := rfl
theorem numV8_list (v : Int) : (numV 8 v).data.toList = [UInt8.ofNat (v / 256 / 256 / 256 / 256 / 256 / 256 / 256 % 256).toNat, UInt8.ofNat (v / 256 / 256 / 256 / 256 / 256 / 256 % 256).toNat, UInt8.ofNat (v / 256 / 256 / 256 / 256 / 256 % 256).toNat, UInt8.ofNat (v / 256 / 256 / 256 / 256 % 256).toNat, UInt8.ofNat (v / 256 / 256 / 256 % 256).toNat, UInt8.ofNat (v / 256 / 256 % 256).toNat, UInt8.ofNat (v / 256 % 256).toNat, UInt8.ofNat (v % 256).toNat] := rfl
theorem tk_num4 (v : Int) (h0 : 0 ≤ v) (h1 : v < 4294967296) : ((tk 0 (numV 4 v).data.toList : Nat) : Int) = v := by
  rw [numV4_list, tk4 _ _ _ _ (m256 _) (m256 _) (m256 _) (m256 _)]
  omega
theorem tk_num8 (v : Int) (h0 : 0 ≤ v) (h1 : v < 18446744073709551616) : ((tk 0 (numV 8 v).data.toList : Nat) : Int) = v := by
  rw [numV8_list, tk8 _ _ _ _ _ _ _ _ (m256 _) (m256 _) (m256 _) (m256 _) (m256 _) (m256 _) (m256 _) (m256 _)]
  omega
theorem xp_num (ex : Int) (h0 : -2147483648 ≤ ex) (h1 : ex ≤ 2147483647) : xpV (numV 4 (wrap32 ex % 4294967296)).data.toList = ex := by
  have e : wrap32 ex % 4294967296 = ex % 4294967296 := by unfold wrap32; omega
  unfold xpV
  rw [e, tk_num4 _ (by omega) (by omega)]
  unfold wrap32 wrap64
  omega
theorem app_ex (a b : ByteArray) (n : Nat) (h : a.size = n) : (a ++ b).extract 0 n = a := by
  have hz := size_eq a
  refine ex_list _ 0 n a ?_
  rw [ByteArray.data_append, Array.toList_append, List.drop_zero]
  exact List.take_left' (by omega)
theorem app_ex2 (a b : ByteArray) (n : Nat) (h : a.size = n) : (a ++ b).extract n (a ++ b).size = b := by
  have hz := size_eq a
  have hz2 := size_eq b
  refine ex_list _ n _ b ?_
  rw [ByteArray.data_append, Array.toList_append, List.drop_left' (by omega)]
  exact List.take_of_length_le (by rw [ByteArray.size_append]; omega)
theorem chk_fields (k : Int) (keys : List ByteArray) (fl ex : Int) (v : ByteArray) (cas del : Int) (q : Bool) (h : chk k keys fl ex v cas del q = 0) :
    (wholeB k = true ∨ fl = 0) ∧ (endsB k = true ∨ ex = 0) ∧ (k = 10 ∨ cas = 0) ∧ ((k = 12 ∨ k = 13) ∨ del = 0) ∧ (¬ (1 ≤ k ∧ k ≤ 4) ∨ q = false) ∧ keys.all keyP = true ∧ v.size ≤ 2000 := by
  unfold chk at h
  by_cases hk : 1 ≤ k ∧ k ≤ 15
  · rw [if_pos hk] at h
    by_cases hb : (fieldsB k fl ex v cas del q && nOk k keys.length && keys.all keyP) = true
    · rw [if_pos hb] at h
      have hv : v.size ≤ 2000 := by
        by_cases g : v.size > 2000
        · rw [if_pos g] at h
          cases h
        · omega
      unfold fieldsB at hb
      simp only [Bool.and_eq_true, Bool.or_eq_true, decide_eq_true_eq, Bool.not_eq_true', decide_eq_false_iff_not] at hb
      obtain ⟨⟨⟨⟨⟨⟨⟨a1, a2⟩, a3⟩, a4⟩, a5⟩, a6⟩, a7⟩, a8⟩ := hb
      exact ⟨a1, a3, a4, a5, a6, a8, hv⟩
    · rw [if_neg hb] at h
      cases h
  · rw [if_neg hk] at h
    cases h
theorem cmd_back (k : Int) (keys : List ByteArray) (fl ex : Int) (v : ByteArray) (cas del : Int) (q : Bool) (hf : 0 ≤ fl ∧ fl < 4294967296) (hd : 0 ≤ del ∧ del < 18446744073709551616) (hc : chk k keys fl ex v cas del q = 0) (hp : plainB k keys.length ex cas q = true) :
    cmdV false (askG tabV (wantV k) q) cas (xtV k fl ex del) (keyV keys) v = (k, keys, fl, ex, v, cas, del, q, 0) := by
  obtain ⟨c1, c2, c3, c4⟩ := chk_len _ _ _ _ _ _ _ _ hc
  obtain ⟨f1, f2, f3, f4, f5, f6, f7⟩ := chk_fields _ _ _ _ _ _ _ _ hc
  unfold plainB at hp
  simp only [Bool.and_eq_true, Bool.or_eq_true, decide_eq_true_eq, Bool.not_eq_true', decide_eq_false_iff_not] at hp
  obtain ⟨⟨⟨⟨⟨p1, p2⟩, p3⟩, p4⟩, p5⟩, p6⟩ := hp
  have hw : 1 ≤ wantV k ∧ wantV k ≤ 15 ∧ wantV k ≠ 4 ∧ wantV k ≠ 10 ∧ (wantV k = 14 → q = false) := by
    unfold wantV
    by_cases h : k = 10
    · rw [if_pos h]
      exact ⟨by decide, by decide, by decide, by decide, fun g => absurd g (by decide)⟩
    · rw [if_neg h]
      exact ⟨c1, c2, p4, h, fun g => p5.resolve_left (fun n => n g)⟩
  obtain ⟨w1, w2, w3, w4, w5⟩ := hw
  have hop := (ops_back (wantV k).toNat (by omega) (by omega) (by omega) (by omega) q (fun g => w5 (by omega))).1
  rw [Int.toNat_of_nonneg (by omega)] at hop
  have hext : extV (wantV k) = extV k := by
    unfold wantV
    by_cases h : k = 10
    · rw [if_pos h, h]
      rfl
    · rw [if_neg h]
  have hq : (q && !rdB (wantV k)) = q := by
    cases q with
    | false => rfl
    | true =>
      have h4 : ¬ (1 ≤ k ∧ k ≤ 4) := f5.resolve_right (by decide)
      have : rdB (wantV k) = false := by
        unfold rdB wantV
        by_cases h : k = 10
        · rw [if_pos h]
          rfl
        · rw [if_neg h, if_pos (by omega)]
          exact decide_eq_false (by omega)
      rw [this]
      rfl
  have hkd : kdV (wantV k) cas = k := by
    unfold kdV wantV
    by_cases h : k = 10
    · rw [if_pos h, if_pos ⟨(p6.resolve_left (fun n => n h)).2, Or.inl rfl⟩, h]
    · rw [if_neg h]
      have h0 : cas = 0 := f3.resolve_left h
      rw [if_neg (fun g => g.1 h0)]
  have hkeys : (if wantV k = 15 ∧ (keyV keys).size = 0 then ([] : List ByteArray) else [keyV keys]) = keys := by
    by_cases h : k = 15
    · have h0 := List.length_eq_zero_iff.1 (c3 h)
      have hw15 : wantV k = 15 := by
        unfold wantV
        rw [if_neg (by omega), h]
      rw [h0, if_pos ⟨hw15, rfl⟩]
    · have h1 := c4 h
      have hw15 : wantV k ≠ 15 := by
        unfold wantV
        split
        · decide
        · exact h
      rw [if_neg (fun g => hw15 g.1)]
      match keys, h1, p3 with
      | [x], _, _ => rfl
  have hend : endV k keys fl ex v cas del q = (k, keys, fl, ex, v, cas, del, q, 0) := if_pos hc
  unfold cmdV
  rw [hop, if_neg (by decide), if_neg (show ¬ (wantV k, q).1 = 0 by show ¬ wantV k = 0; omega)]
  show (if ((xtV k fl ex del).size : Int) = extV (wantV k) then cmV (wantV k) cas (xtV k fl ex del) (if wantV k = 15 ∧ (keyV keys).size = 0 then [] else [keyV keys]) v (q && !rdB (wantV k)) else badC 6) = _
  rw [hext, hq, hkeys]
  unfold cmV
  rw [hkd]
  have z4 := fun x => numV_size 4 x
  have z8 := fun x => numV_size 8 x
  by_cases h4 : extV k = 4
  · have hx : xtV k fl ex del = numV 4 (wrap32 ex % 4294967296) := if_pos h4
    have hk : k = 14 ∨ k = 3 := by
      unfold extV at h4
      split at h4
      · cases h4
      · split at h4
        · cases h4
        · split at h4
          · assumption
          · cases h4
    have g1 : fl = 0 := f1.resolve_left (fun g => by unfold wholeB at g; have := of_decide_eq_true g; omega)
    have g2 : del = 0 := f4.resolve_left (by omega)
    rw [hx, z4, h4, if_pos (show ((4 : Nat) : Int) = 4 from rfl), if_pos rfl, xp_num ex p1 p2]
    rw [g1, g2] at hend ⊢
    exact hend
  · by_cases h8 : extV k = 8
    · have hx : xtV k fl ex del = numV 4 fl ++ numV 4 (wrap32 ex % 4294967296) := by
        have e : IntKind.u64.wrap fl = fl := by rw [IntKind.wrap_u64]; omega
        unfold xtV
        rw [if_neg h4, if_pos h8, e]
      have hs : (numV 4 fl ++ numV 4 (wrap32 ex % 4294967296)).size = 8 := by rw [ByteArray.size_append, z4, z4]
      have hk : ¬ (k = 12 ∨ k = 13) := by
        intro g
        unfold extV at h8
        rw [if_neg (by omega), if_pos g] at h8
        cases h8
      have g2 : del = 0 := f4.resolve_left hk
      rw [hx, app_ex _ _ 4 (z4 _), app_ex2 _ _ 4 (z4 _), hs, h8, if_pos (show ((8 : Nat) : Int) = 8 from rfl), if_neg (show ¬ (8 : Nat) = 4 by decide), if_pos rfl, xp_num ex p1 p2, tk_num4 fl hf.1 hf.2, Int.emod_eq_of_lt hf.1 hf.2]
      rw [g2] at hend ⊢
      exact hend
    · by_cases h20 : extV k = 20
      · have hx : xtV k fl ex del = numV 8 del ++ numV 8 0 ++ numV 4 4294967295 := by
          unfold xtV
          rw [if_neg h4, if_neg h8, if_pos h20]
        have hs : (numV 8 del ++ numV 8 0 ++ numV 4 4294967295).size = 20 := by rw [ByteArray.size_append, ByteArray.size_append, z8, z8, z4]
        have hk : k = 12 ∨ k = 13 := by
          unfold extV at h20
          split at h20
          · cases h20
          · split at h20
            · assumption
            · split at h20 <;> cases h20
        have g1 : fl = 0 := f1.resolve_left (fun g => by unfold wholeB at g; have := of_decide_eq_true g; omega)
        have g2 : ex = 0 := f2.resolve_left (fun g => by unfold endsB at g; have := of_decide_eq_true g; omega)
        have e1 : (numV 8 del ++ numV 8 0 ++ numV 4 4294967295).extract 0 8 = numV 8 del := by
          rw [ByteArray.append_assoc]
          exact app_ex _ _ 8 (z8 _)
        have e2 : (numV 8 del ++ numV 8 0 ++ numV 4 4294967295).extract 16 (numV 8 del ++ numV 8 0 ++ numV 4 4294967295).size = numV 4 4294967295 := app_ex2 _ _ 16 (by rw [ByteArray.size_append, z8, z8])
        rw [hx, e1, e2, hs, h20, if_pos (show ((20 : Nat) : Int) = 20 from rfl), if_neg (show ¬ (20 : Nat) = 4 by decide), if_neg (show ¬ (20 : Nat) = 8 by decide), if_pos rfl, tk_num4 4294967295 (by decide) (by decide), if_pos rfl, tk_num8 del hd.1 hd.2]
        rw [g1, g2] at hend ⊢
        exact hend
      · have hx : xtV k fl ex del = ⟨#[]⟩ := by
          unfold xtV
          rw [if_neg h4, if_neg h8, if_neg h20]
        have h0 : extV k = 0 := by
          unfold extV at *
          split at h8
          · exact absurd rfl h8
          · rename_i n1
            rw [if_neg n1] at h20 h4 ⊢
            split at h20
            · exact absurd rfl h20
            · rename_i n2
              rw [if_neg n2] at h4 ⊢
              split at h4
              · exact absurd rfl h4
              · rename_i n3
                rw [if_neg n3]
        have hk : ¬ (k = 5 ∨ k = 6 ∨ k = 7 ∨ k = 10) ∧ ¬ (k = 12 ∨ k = 13) ∧ ¬ (k = 14 ∨ k = 3) := by
          unfold extV at h0
          split at h0
          · cases h0
          · split at h0
            · cases h0
            · split at h0
              · cases h0
              · exact ⟨by assumption, by assumption, by assumption⟩
        have g1 : fl = 0 := f1.resolve_left (fun g => by unfold wholeB at g; have := of_decide_eq_true g; omega)
        have g2 : ex = 0 := f2.resolve_left (fun g => by unfold endsB at g; have := of_decide_eq_true g; omega)
        have g3 : del = 0 := f4.resolve_left hk.2.1
        rw [hx, h0]
        show (if ((0 : Nat) : Int) = 0 then (if (0 : Nat) = 4 then _ else if (0 : Nat) = 8 then _ else if (0 : Nat) = 20 then _ else endV k keys 0 0 v cas 0 q) else badC 6) = _
        rw [if_pos (show ((0 : Nat) : Int) = 0 from rfl), if_neg (show ¬ (0 : Nat) = 4 by decide), if_neg (show ¬ (0 : Nat) = 8 by decide), if_neg (show ¬ (0 : Nat) = 20 by decide)]
        rw [g1, g2, g3] at hend ⊢
        exact hend

abbrev RpT := Bool × Int × Int × Int × Int × ByteArray × ByteArray × ByteArray × Bool
def RepP (op oq : Int) (r : RpT) : Prop := r.2.2.2.2.2.2.2.2 = true → r.1 = true ∧ r.2.1 = op ∧ r.2.2.2.1 = oq
theorem rep4 (x8 op st oq cs : Int) (ex ky vl : ByteArray) (r : RpT) (h : frame_Reply.j4L x8 true op st oq cs ex ky vl = some r) : RepP op oq r := by
  rw [frame_Reply.j4L_eq] at h
  split at h <;> (obtain rfl := Option.some.inj h; exact fun _ => ⟨rfl, rfl, rfl⟩)
theorem rep3 (x2 x8 : Int) (x11 : Bool) (f0 : Bool) (f1 f2 f3 f4 : Int) (f5 f6 f7 : ByteArray) (c : Int) (l : List S102) (n : Int) (op st oq cs : Int) (ex ky vl : ByteArray) (r : RpT) (h : frame_Reply.j3L x2 x8 x11 f0 f1 f2 f3 f4 f5 f6 f7 c l n true op st oq cs ex ky vl = some r) : RepP op oq r := by
  rw [frame_Reply.j3L_eq] at h
  split at h
  · split at h
    · obtain ⟨t, _, h⟩ := Option.bind_eq_some_iff.1 h
      exact rep4 _ _ _ _ _ _ _ _ _ h
    · cases h
  · split at h
    · exact rep4 _ _ _ _ _ _ _ _ _ h
    · split at h
      · obtain ⟨t, _, h⟩ := Option.bind_eq_some_iff.1 h
        exact rep4 _ _ _ _ _ _ _ _ _ h
      · split at h <;> exact rep4 _ _ _ _ _ _ _ _ _ h
theorem rep2 (x2 x8 : Int) (x11 x59 : Bool) (f0 : Bool) (f1 f2 f3 f4 : Int) (f5 f6 f7 : ByteArray) (c : Int) (l : List S102) (n : Int) (op st oq cs : Int) (ex ky vl : ByteArray) (r : RpT) (h : frame_Reply.j2L x2 x8 x11 x59 f0 f1 f2 f3 f4 f5 f6 f7 c l n true op st oq cs ex ky vl = some r) : RepP op oq r := by
  rw [frame_Reply.j2L_eq] at h
  split at h
  · obtain rfl := Option.some.inj h
    exact fun g => by cases g
  · exact rep3 _ _ _ _ _ _ _ _ _ _ _ _ _ _ _ _ _ _ _ _ _ _ h
theorem rep1 (x2 x8 : Int) (x11 x12 : Bool) (f0 : Bool) (f1 f2 f3 f4 : Int) (f5 f6 f7 : ByteArray) (c : Int) (l : List S102) (n : Int) (op st oq cs : Int) (ex ky vl : ByteArray) (r : RpT) (h : frame_Reply.j1L x2 x8 x11 x12 f0 f1 f2 f3 f4 f5 f6 f7 c l n true op st oq cs ex ky vl = some r) : RepP op oq r := by
  rw [frame_Reply.j1L_eq] at h
  obtain ⟨t, _, h⟩ := Option.bind_eq_some_iff.1 h
  split at h
  · split at h
    · exact rep2 _ _ _ _ _ _ _ _ _ _ _ _ _ _ _ _ _ _ _ _ _ _ _ h
    · obtain ⟨t2, _, h⟩ := Option.bind_eq_some_iff.1 h
      split at h <;> exact rep2 _ _ _ _ _ _ _ _ _ _ _ _ _ _ _ _ _ _ _ _ _ _ _ h
  · obtain ⟨t2, _, h⟩ := Option.bind_eq_some_iff.1 h
    split at h <;> exact rep2 _ _ _ _ _ _ _ _ _ _ _ _ _ _ _ _ _ _ _ _ _ _ _ h
theorem rep0 (x2 x8 : Int) (x9 x11 : Bool) (f0 : Bool) (f1 f2 f3 f4 : Int) (f5 f6 f7 : ByteArray) (c : Int) (l : List S102) (n : Int) (op st oq cs : Int) (ex ky vl : ByteArray) (r : RpT) (h : frame_Reply.j0L x2 x8 x9 x11 f0 f1 f2 f3 f4 f5 f6 f7 c l n true op st oq cs ex ky vl = some r) : RepP op oq r := by
  rw [frame_Reply.j0L_eq] at h
  split at h
  · split at h <;> exact rep1 _ _ _ _ _ _ _ _ _ _ _ _ _ _ _ _ _ _ _ _ _ _ _ h
  · exact rep3 _ _ _ _ _ _ _ _ _ _ _ _ _ _ _ _ _ _ _ _ _ _ h
theorem rep_P (f0 : Bool) (op f2 oq f4 : Int) (f5 f6 f7 : ByteArray) (c : Int) (l : List S102) (n cas : Int) (r : RpT) (h : frame_Reply.L f0 op f2 oq f4 f5 f6 f7 c l n cas = some r) : RepP op oq r := by
  rw [frame_Reply.L_eq] at h
  obtain ⟨t, _, h⟩ := Option.bind_eq_some_iff.1 h
  obtain ⟨t2, _, h⟩ := Option.bind_eq_some_iff.1 h
  split at h <;> exact rep0 _ _ _ _ _ _ _ _ _ _ _ _ _ _ _ _ _ _ _ _ _ _ _ h
end Go.Proofs.Ytdepkgikdmlgiaa.Pl
