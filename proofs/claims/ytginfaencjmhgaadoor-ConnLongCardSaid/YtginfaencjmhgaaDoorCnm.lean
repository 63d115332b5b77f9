/- What a connection's bytes ask for, in plain Lean: a connection's state, one step, all steps; what bytes behind change, and what they don't. No condition. -/
import Derived.Test.YtginfaencjmhgaaDoorTot
import Derived.Lib.Bytealg
import Derived.Lib.Bytes2
namespace Go.Proofs.YtginfaencjmhgaaDoor.Pl
set_option linter.unusedVariables false
set_option linter.unusedSimpArgs false
open Go Go.RowKit Go.Proofs.YtginfaencjmhgaaDoor.P Go.Proofs.YtginfaencjmhgaaDoor.Lim Go.Proofs.YtginfaencjmhgaaDoorW.PrintWords
/-! where a line ends -/
def ixb (xs : List Int) : Int := Lib.indexByte (Lib.bytesOf xs) 10
theorem bo_app (xs ys : List Int) : Lib.bytesOf (xs ++ ys) = Lib.bytesOf xs ++ Lib.bytesOf ys := List.map_append
theorem bo_len (xs : List Int) : (Lib.bytesOf xs).length = xs.length := List.length_map _
theorem bo_drop (xs : List Int) (n : Nat) : Lib.bytesOf (xs.drop n) = (Lib.bytesOf xs).drop n := List.map_drop
theorem iby_cons (b : UInt8) (l : List UInt8) (c : UInt8) : Lib.indexByte (b :: l) c = if (b == c) = true then 0 else if (Lib.indexByte l c == -1) = true then -1 else Lib.indexByte l c + 1 := rfl
theorem drop_past {α : Type} (l m : List α) (x : Nat) : (l ++ m).drop (l.length + x) = m.drop x := by
  rw [List.drop_append, Nat.add_sub_cancel_left, List.drop_eq_nil_of_le (Nat.le_add_right _ _), List.nil_append]
theorem iby_lt (c : UInt8) : ∀ l : List UInt8, Lib.indexByte l c < l.length
  | [] => by show (-1 : Int) < 0; decide
  | b :: l => by
    have := iby_lt c l
    rw [iby_cons, List.length_cons]
    split
    · omega
    · split <;> omega
theorem iby_pos (c : UInt8) (m : List UInt8) : ∀ l : List UInt8, 0 ≤ Lib.indexByte l c → Lib.indexByte (l ++ m) c = Lib.indexByte l c
  | [], h => by exact absurd h (by show ¬ (0 : Int) ≤ -1; decide)
  | b :: l, h => by
    have g := Lib.indexByte_ge l c
    rw [iby_cons] at h
    rw [List.cons_append, iby_cons, iby_cons]
    by_cases hb : (b == c) = true
    · rw [if_pos hb, if_pos hb]
    · rw [if_neg hb] at h
      rw [if_neg hb, if_neg hb]
      by_cases h1 : Lib.indexByte l c = -1
      · rw [if_pos (beq_iff_eq.2 h1)] at h
        exact absurd h (by decide)
      · rw [iby_pos c m l (by omega)]
theorem iby_neg (c : UInt8) (m : List UInt8) : ∀ l : List UInt8, Lib.indexByte l c < 0 → Lib.indexByte (l ++ m) c = if 0 ≤ Lib.indexByte m c then (l.length : Int) + Lib.indexByte m c else -1
  | [], _ => by
    have g := Lib.indexByte_ge m c
    rw [List.nil_append]
    split
    · show _ = ((0 : Nat) : Int) + _; omega
    · omega
  | b :: l, h => by
    have g := Lib.indexByte_ge l c
    have gm := Lib.indexByte_ge (l ++ m) c
    rw [iby_cons] at h
    rw [List.cons_append, iby_cons]
    by_cases hb : (b == c) = true
    · rw [if_pos hb] at h
      exact absurd h (by decide)
    · rw [if_neg hb] at h
      rw [if_neg hb]
      have h1 : Lib.indexByte l c < 0 := by
        by_cases h1 : Lib.indexByte l c = -1
        · omega
        · rw [if_neg (fun e => h1 (beq_iff_eq.1 e))] at h
          omega
      rw [iby_neg c m l h1]
      by_cases hm : 0 ≤ Lib.indexByte m c
      · rw [if_pos hm, if_pos hm, if_neg (fun e => by have := beq_iff_eq.1 e; omega), List.length_cons]
        omega
      · rw [if_neg hm, if_neg hm, if_pos (beq_iff_eq.2 rfl)]
theorem iby_none (c : UInt8) : ∀ (l : List UInt8) (k : Nat), Lib.indexByte l c < 0 → Lib.indexByte (l.drop k) c < 0
  | [], k, _ => by rw [List.drop_nil]; show (-1 : Int) < 0; decide
  | b :: l, 0, h => by rw [List.drop_zero]; exact h
  | b :: l, k + 1, h => by
    have g := Lib.indexByte_ge l c
    rw [List.drop_succ_cons]
    refine iby_none c l k ?_
    rw [iby_cons] at h
    by_cases hb : (b == c) = true
    · rw [if_pos hb] at h
      exact absurd h (by decide)
    · rw [if_neg hb] at h
      by_cases h1 : Lib.indexByte l c = -1
      · omega
      · rw [if_neg (fun e => h1 (beq_iff_eq.1 e))] at h
        omega
theorem ixb_lt (xs : List Int) : ixb xs < xs.length := by have := iby_lt 10 (Lib.bytesOf xs); rw [bo_len] at this; exact this
theorem ixb_pos (xs ys : List Int) (h : 0 ≤ ixb xs) : ixb (xs ++ ys) = ixb xs := by unfold ixb; rw [bo_app, iby_pos _ _ _ h]
theorem ixb_neg (xs ys : List Int) (h : ixb xs < 0) : ixb (xs ++ ys) = if 0 ≤ ixb ys then (xs.length : Int) + ixb ys else -1 := by unfold ixb; rw [bo_app, iby_neg _ _ _ h, bo_len]
theorem ixb_none (xs : List Int) (k : Nat) (h : ixb xs < 0) : ixb (xs.drop k) < 0 := by unfold ixb; rw [bo_drop]; exact iby_none _ _ _ h
/-! the state, and a step -/
/-- A line's text, without its end. -/
def lnV (xs : List Int) : ByteArray := strOfNums (if Lib.hasSuffix (Lib.bytesOf xs) [13] = true then xs.take (xs.length - 1) else xs)
abbrev AT := Int × Int × List ByteArray × Int × Int × ByteArray × Int × Int × Bool
def zA (v : Int) : AT := (v, 0, [], 0, 0, ⟨#[]⟩, 0, 0, false)
structure CS where
  b : List Int
  sw : Int
  rs : Bool
  wt : Option PT
def askP (p : PT) : AT := (p.1, p.2.1, p.2.2.1, p.2.2.2.1, p.2.2.2.2.1, p.2.2.2.2.2.1, p.2.2.2.2.2.2.1, p.2.2.2.2.2.2.2.1, p.2.2.2.2.2.2.2.2.1)
def askV (p : PT) (v : ByteArray) : AT := (1, p.2.1, p.2.2.1, p.2.2.2.1, p.2.2.2.2.1, v, p.2.2.2.2.2.2.1, p.2.2.2.2.2.2.2.1, p.2.2.2.2.2.2.2.2.1)
def byP (p : PT) : Int := p.2.2.2.2.2.2.2.2.2.1
def swP (p : PT) : Int := p.2.2.2.2.2.2.2.2.2.2
def pT (s : ByteArray) : PT := (pO s).getD (zP 3)
theorem pT_some (s : ByteArray) : pO s = some (pT s) ∧ Good (pT s) := by
  obtain ⟨r, hr, g⟩ := parse_good s
  unfold pT
  rw [hr]
  exact ⟨rfl, g⟩
theorem pT_by (s : ByteArray) : 0 ≤ byP (pT s) ∧ byP (pT s) ≤ 2000 := by
  have g := (pT_some s).2
  generalize pT s = p at g
  cases g <;> (unfold byP; dsimp only; omega)
theorem pT_sw (s : ByteArray) : 0 ≤ swP (pT s) := by
  have g := (pT_some s).2
  generalize pT s = p at g
  cases g <;> (unfold swP; dsimp only; omega)
def cleanV (s : CS) : CS × Bool :=
  let n := min s.sw (s.b.length : Int)
  let b1 := s.b.drop n.toNat
  if 0 < s.sw - n then (⟨b1, s.sw - n, s.rs, s.wt⟩, false)
  else if s.rs = true then (if ixb b1 < 0 then (⟨[], s.sw - n, true, s.wt⟩, false) else (⟨b1.drop (ixb b1 + 1).toNat, s.sw - n, false, s.wt⟩, true))
  else (⟨b1, s.sw - n, false, s.wt⟩, true)
def valueV (s : CS) (p : PT) : CS × AT × Bool :=
  if (s.b.length : Int) < byP p + 2 then (⟨s.b, s.sw, s.rs, some p⟩, zA 0, false)
  else if (strOfNums ((s.b.drop (byP p).toNat).take 2)).toList = [13, 10] then (⟨s.b.drop ((byP p).toNat + 2), s.sw, s.rs, none⟩, askV p (strOfNums (s.b.take (byP p).toNat)), true)
  else (⟨s.b.drop ((byP p).toNat + 2), s.sw, s.rs || (bt (strOfNums ((s.b.drop (byP p).toNat).take 2)) 1 != 10), none⟩, zA 5, true)
def coreV (s : CS) : CS × AT × Bool :=
  match s.wt with
  | some p => valueV s p
  | none =>
    if ixb s.b < 0 then (if (s.b.length : Int) ≤ 161 then (s, zA 0, false) else (⟨s.b.drop 161, s.sw, true, none⟩, zA 9, true))
    else
      let p := pT (lnV (s.b.take (ixb s.b).toNat))
      if p.1 = 2 then valueV ⟨s.b.drop (ixb s.b + 1).toNat, s.sw, s.rs, none⟩ p
      else (⟨s.b.drop (ixb s.b + 1).toNat, swP p, s.rs, none⟩, askP p, true)
def nextV (s : CS) : CS × AT × Bool := if (cleanV s).2 = true then coreV (cleanV s).1 else ((cleanV s).1, zA 0, false)
def allV : Nat → CS → List AT × CS
  | 0, s => ([], s)
  | n + 1, s => if (nextV s).2.2 = true then ((nextV s).2.1 :: (allV n (nextV s).1).1, (allV n (nextV s).1).2) else ([], (nextV s).1)
/-- Bytes behind. -/
def CS.add (s : CS) (c : List Int) : CS := ⟨s.b ++ c, s.sw, s.rs, s.wt⟩
theorem add_nil (s : CS) : s.add [] = s := by unfold CS.add; rw [List.append_nil]
theorem add_add (s : CS) (c d : List Int) : (s.add c).add d = s.add (c ++ d) := by unfold CS.add; rw [List.append_assoc]
structure CS.Ok (s : CS) : Prop where
  sw : 0 ≤ s.sw
  wt : ∀ p, s.wt = some p → 0 ≤ byP p ∧ byP p ≤ 2000
/-- Two states that no step tells apart, whatever bytes come behind. -/
def Eqv (s t : CS) : Prop := ∀ c, nextV (s.add c) = nextV (t.add c)
theorem Eqv.refl (s : CS) : Eqv s s := fun _ => rfl
theorem Eqv.trans {s t u : CS} (h : Eqv s t) (k : Eqv t u) : Eqv s u := fun c => (h c).trans (k c)
theorem Eqv.symm {s t : CS} (h : Eqv s t) : Eqv t s := fun c => (h c).symm
theorem Eqv.add {s t : CS} (h : Eqv s t) (c : List Int) : Eqv (s.add c) (t.add c) := fun d => by rw [add_add, add_add]; exact h _
theorem Eqv.next {s t : CS} (h : Eqv s t) : nextV s = nextV t := by have := h []; rwa [add_nil, add_nil] at this
theorem next_clean {s t : CS} (h : cleanV s = cleanV t) : nextV s = nextV t := by unfold nextV; rw [h]
/-! what bytes behind change of the cleaning -/
theorem clean_yes (s : CS) (hs : s.Ok) (h : (cleanV s).2 = true) : (cleanV s).1.sw = 0 ∧ (cleanV s).1.rs = false ∧ (cleanV s).1.wt = s.wt ∧ ∀ c, cleanV (s.add c) = ((cleanV s).1.add c, true) := by
  have h0 := hs.sw
  unfold cleanV at h ⊢
  dsimp only at h ⊢
  by_cases h1 : 0 < s.sw - min s.sw (s.b.length : Int)
  · rw [if_pos h1] at h
    cases h
  · rw [if_neg h1] at h ⊢
    have hm : min s.sw (s.b.length : Int) = s.sw := by omega
    have hle : s.sw ≤ (s.b.length : Int) := by omega
    have hz : s.sw - s.sw = 0 := Int.sub_self _
    rw [hm] at h h1 ⊢
    have hmc : ∀ c : List Int, min s.sw (((s.add c).b.length : Nat) : Int) = s.sw := by
      intro c
      unfold CS.add
      rw [List.length_append]
      omega
    have hd : ∀ c : List Int, (s.add c).b.drop s.sw.toNat = s.b.drop s.sw.toNat ++ c := fun c => List.drop_append_of_le_length (by omega)
    by_cases hr : s.rs = true
    · rw [if_pos hr] at h ⊢
      by_cases hi : ixb (s.b.drop s.sw.toNat) < 0
      · rw [if_pos hi] at h
        cases h
      · rw [if_neg hi] at h ⊢
        refine ⟨hz, rfl, rfl, fun c => ?_⟩
        have hl := ixb_lt (s.b.drop s.sw.toNat)
        have e1 : (s.add c).sw = s.sw := rfl
        have e2 : (s.add c).rs = s.rs := rfl
        rw [e1, e2, hmc c, hd c, if_neg h1, if_pos hr, ixb_pos _ c (by omega), if_neg hi]
        refine Prod.ext ?_ rfl
        show CS.mk _ _ _ _ = CS.mk _ _ _ _
        rw [List.drop_append_of_le_length (by omega)]
        rfl
    · rw [if_neg hr] at h ⊢
      have hr' : s.rs = false := by cases hq : s.rs <;> simp_all
      refine ⟨hz, rfl, rfl, fun c => ?_⟩
      have e1 : (s.add c).sw = s.sw := rfl
      have e2 : (s.add c).rs = s.rs := rfl
      rw [e1, e2, hmc c, hd c, if_neg h1, if_neg hr]
      rfl
theorem clean_id (s : CS) (h0 : s.sw = 0) (hr : s.rs = false) : cleanV s = (s, true) := by
  obtain ⟨b, sw, rs, wt⟩ := s
  dsimp only at h0 hr
  subst h0 hr
  unfold cleanV
  dsimp only
  have hm : min (0 : Int) (b.length : Int) = 0 := by omega
  rw [hm, if_neg (by decide), if_neg (by decide)]
  rfl
theorem clean_no (s : CS) (hs : s.Ok) (h : (cleanV s).2 = false) : (cleanV s).1.Ok ∧ ∀ c, cleanV ((cleanV s).1.add c) = cleanV (s.add c) := by
  have h0 := hs.sw
  unfold cleanV at h
  dsimp only at h
  by_cases h1 : 0 < s.sw - min s.sw (s.b.length : Int)
  · have hm : min s.sw (s.b.length : Int) = (s.b.length : Int) := by omega
    have hd0 : s.b.drop (s.b.length : Int).toNat = [] := by rw [Int.toNat_natCast, List.drop_length]
    have e : (cleanV s).1 = ⟨[], s.sw - (s.b.length : Int), s.rs, s.wt⟩ := by
      unfold cleanV
      dsimp only
      rw [if_pos h1, hm, hd0]
    rw [e]
    rw [hm] at h1
    refine ⟨⟨by show 0 ≤ s.sw - _; omega, hs.wt⟩, fun c => ?_⟩
    unfold CS.add cleanV
    dsimp only
    rw [List.nil_append, List.length_append]
    have em : min s.sw ((s.b.length + c.length : Nat) : Int) = (s.b.length : Int) + min (s.sw - (s.b.length : Int)) (c.length : Int) := by omega
    have ed : (s.b ++ c).drop ((s.b.length : Int) + min (s.sw - (s.b.length : Int)) (c.length : Int)).toNat = c.drop (min (s.sw - (s.b.length : Int)) (c.length : Int)).toNat := by
      rw [show ((s.b.length : Int) + min (s.sw - (s.b.length : Int)) (c.length : Int)).toNat = s.b.length + (min (s.sw - (s.b.length : Int)) (c.length : Int)).toNat by omega, List.drop_append, List.drop_eq_nil_of_le (by omega), List.nil_append]
      congr 1
      omega
    rw [em, ed, show s.sw - ((s.b.length : Int) + min (s.sw - (s.b.length : Int)) (c.length : Int)) = s.sw - (s.b.length : Int) - min (s.sw - (s.b.length : Int)) (c.length : Int) by omega]
  · rw [if_neg h1] at h
    have hm : min s.sw (s.b.length : Int) = s.sw := by omega
    have hle : s.sw ≤ (s.b.length : Int) := by omega
    by_cases hr : s.rs = true
    · rw [if_pos hr] at h
      by_cases hi : ixb (s.b.drop (min s.sw (s.b.length : Int)).toNat) < 0
      · have e : (cleanV s).1 = ⟨[], 0, true, s.wt⟩ := by
          unfold cleanV
          dsimp only
          rw [if_neg h1, if_pos hr, if_pos hi, hm, Int.sub_self]
        rw [e]
        rw [hm] at hi h1
        refine ⟨⟨Int.le_refl _, hs.wt⟩, fun c => ?_⟩
        unfold CS.add cleanV
        dsimp only
        rw [List.nil_append, List.length_append]
        have em : min s.sw ((s.b.length + c.length : Nat) : Int) = s.sw := by omega
        have ez : min (0 : Int) (c.length : Int) = 0 := by omega
        have ed : (s.b ++ c).drop s.sw.toNat = s.b.drop s.sw.toNat ++ c := List.drop_append_of_le_length (by omega)
        rw [em, ez, ed, if_neg h1, if_pos hr, if_neg (by decide), if_pos rfl, ixb_neg _ c hi, show List.drop (0 : Int).toNat c = c from rfl, Int.sub_self, Int.sub_self]
        by_cases hc : 0 ≤ ixb c
        · rw [if_pos hc, if_neg (by omega), if_neg (by omega)]
          refine Prod.ext ?_ rfl
          show CS.mk _ _ _ _ = CS.mk _ _ _ _
          rw [show (((s.b.drop s.sw.toNat).length : Int) + ixb c + 1).toNat = (s.b.drop s.sw.toNat).length + (ixb c + 1).toNat by omega, drop_past]
        · rw [if_neg hc, if_pos (by omega), if_pos (by decide)]
      · rw [if_neg hi] at h
        cases h
    · rw [if_neg hr] at h
      cases h
/-! .. and of a step -/
theorem value_add (s : CS) (p : PT) (hp : 0 ≤ byP p) (h : ¬ (s.b.length : Int) < byP p + 2) (c : List Int) : valueV (s.add c) p = ((valueV s p).1.add c, (valueV s p).2) := by
  unfold valueV CS.add
  dsimp only
  have hl : ¬ (((s.b ++ c).length : Nat) : Int) < byP p + 2 := by rw [List.length_append]; omega
  have e1 : (s.b ++ c).take (byP p).toNat = s.b.take (byP p).toNat := List.take_append_of_le_length (by omega)
  have e2 : (s.b ++ c).drop (byP p).toNat = s.b.drop (byP p).toNat ++ c := List.drop_append_of_le_length (by omega)
  have e3 : (s.b ++ c).drop ((byP p).toNat + 2) = s.b.drop ((byP p).toNat + 2) ++ c := List.drop_append_of_le_length (by omega)
  have e4 : (s.b.drop (byP p).toNat ++ c).take 2 = (s.b.drop (byP p).toNat).take 2 := List.take_append_of_le_length (by rw [List.length_drop]; omega)
  rw [if_neg hl, if_neg h, e1, e2, e3, e4]
  split <;> rfl
theorem value_no (s : CS) (p : PT) (h : (s.b.length : Int) < byP p + 2) : valueV s p = (⟨s.b, s.sw, s.rs, some p⟩, zA 0, false) := if_pos h
theorem value_yes (s : CS) (p : PT) (h : ¬ (s.b.length : Int) < byP p + 2) : (valueV s p).2.2 = true := by
  unfold valueV
  rw [if_neg h]
  split <;> rfl
theorem ok_clean (s : CS) (hs : s.Ok) (h : (cleanV s).2 = true) : (cleanV s).1.Ok := by
  obtain ⟨h1, _, h3, _⟩ := clean_yes s hs h
  exact ⟨by rw [h1]; exact Int.le_refl _, fun p hp => hs.wt p (by rw [← h3]; exact hp)⟩
theorem next_add (s : CS) (hs : s.Ok) (h : (cleanV s).2 = true) (c : List Int) : nextV (s.add c) = coreV ((cleanV s).1.add c) := by
  unfold nextV
  rw [(clean_yes s hs h).2.2.2 c, if_pos rfl]
theorem long_line (xs : List Int) (h : 162 ≤ xs.length) : (pT (lnV xs)) = zP 9 := by
  have hz : 160 < (lnV xs).size := by
    have e : (lnV xs).size = (if Lib.hasSuffix (Lib.bytesOf xs) [13] = true then xs.take (xs.length - 1) else xs).length := by
      unfold lnV
      rw [← size_eq, ← toList_data, Lib.strOfNums_toList, bo_len]
    rw [e]
    split
    · rw [List.length_take]; omega
    · omega
  unfold pT pO
  rw [if_pos hz]
  rfl
/-- A step that tells nothing: the state behind it is as good as the one ahead of it. -/
theorem step_no (s : CS) (hs : s.Ok) (h : (nextV s).2.2 = false) : (nextV s).1.Ok ∧ Eqv (nextV s).1 s := by
  cases hc : (cleanV s).2 with
  | false =>
    have e : (nextV s).1 = (cleanV s).1 := by
      unfold nextV
      rw [hc]
      rfl
    obtain ⟨h1, h2⟩ := clean_no s hs hc
    rw [e]
    exact ⟨h1, fun c => next_clean (h2 c)⟩
  | true =>
    obtain ⟨z1, z2, z3, z4⟩ := clean_yes s hs hc
    have ok := ok_clean s hs hc
    have e : nextV s = coreV (cleanV s).1 := by have := next_add s hs hc []; rwa [add_nil, add_nil] at this
    have ea : ∀ c, nextV (s.add c) = coreV ((cleanV s).1.add c) := next_add s hs hc
    rw [e] at h ⊢
    generalize (cleanV s).1 = t at z1 z2 ok h ea ⊢
    have self : ∀ c, nextV (t.add c) = coreV (t.add c) := fun c => by
      unfold nextV
      rw [clean_id (t.add c) z1 z2, if_pos rfl]
    unfold coreV at h ⊢
    cases hw : t.wt with
    | some p =>
      rw [hw] at h
      dsimp only at h ⊢
      by_cases hl : (t.b.length : Int) < byP p + 2
      · rw [value_no t p hl]
        have et : (⟨t.b, t.sw, t.rs, some p⟩ : CS) = t := by rw [← hw]
        dsimp only
        rw [et]
        exact ⟨ok, fun c => by rw [self c, ea c]⟩
      · rw [value_yes t p hl] at h
        cases h
    | none =>
      rw [hw] at h
      dsimp only at h ⊢
      by_cases hi : ixb t.b < 0
      · rw [if_pos hi] at h ⊢
        by_cases hl : (t.b.length : Int) ≤ 161
        · rw [if_pos hl]
          exact ⟨ok, fun c => by rw [self c, ea c]⟩
        · rw [if_neg hl] at h
          cases h
      · rw [if_neg hi] at h ⊢
        by_cases hp : (pT (lnV (t.b.take (ixb t.b).toNat))).1 = 2
        · rw [if_pos hp] at h ⊢
          have hb := pT_by (lnV (t.b.take (ixb t.b).toNat))
          generalize hpe : pT (lnV (t.b.take (ixb t.b).toNat)) = p at hp h hb ⊢
          by_cases hl : (((⟨t.b.drop (ixb t.b + 1).toNat, t.sw, t.rs, none⟩ : CS).b.length : Nat) : Int) < byP p + 2
          · rw [value_no _ p hl]
            dsimp only
            refine ⟨⟨by show 0 ≤ t.sw; rw [z1]; exact Int.le_refl _, fun q hq => by cases hq; exact hb⟩, fun c => ?_⟩
            rw [ea c]
            unfold nextV
            rw [clean_id _ (show (CS.add ⟨t.b.drop (ixb t.b + 1).toNat, t.sw, t.rs, some p⟩ c).sw = 0 from z1) (show (CS.add ⟨t.b.drop (ixb t.b + 1).toNat, t.sw, t.rs, some p⟩ c).rs = false from z2), if_pos rfl]
            have hlt := ixb_lt t.b
            have c1 : ixb (t.b ++ c) = ixb t.b := ixb_pos t.b c (by omega)
            have c2 : (t.b ++ c).take (ixb t.b).toNat = t.b.take (ixb t.b).toNat := List.take_append_of_le_length (by omega)
            have c3 : (t.b ++ c).drop (ixb t.b + 1).toNat = t.b.drop (ixb t.b + 1).toNat ++ c := List.drop_append_of_le_length (by omega)
            unfold coreV CS.add
            dsimp only
            rw [hw]
            dsimp only
            rw [c1, if_neg hi, c2, hpe, if_pos hp, c3]
            rfl
          · rw [value_yes _ p hl] at h
            cases h
        · rw [if_neg hp] at h
          cases h
theorem clean_len (s : CS) : (cleanV s).1.b.length ≤ s.b.length := by
  unfold cleanV
  dsimp only
  split
  · rw [List.length_drop]; omega
  · split
    · split
      · exact Nat.zero_le _
      · rw [List.length_drop, List.length_drop]; omega
    · rw [List.length_drop]; omega
theorem value_len (s : CS) (p : PT) : (valueV s p).1.b.length ≤ s.b.length := by
  unfold valueV
  split
  · exact Nat.le_refl _
  · split <;> (rw [List.length_drop]; omega)
theorem value_less (s : CS) (p : PT) (hp : 0 ≤ byP p) (h : ¬ (s.b.length : Int) < byP p + 2) : (valueV s p).1.b.length < s.b.length := by
  unfold valueV
  rw [if_neg h]
  split <;> (rw [List.length_drop]; omega)
theorem core_len (s : CS) : (coreV s).1.b.length ≤ s.b.length := by
  unfold coreV
  split
  · exact value_len _ _
  · split
    · split
      · exact Nat.le_refl _
      · rw [List.length_drop]; omega
    · dsimp only
      split
      · refine Nat.le_trans (value_len _ _) ?_
        rw [List.length_drop]; omega
      · rw [List.length_drop]; omega
theorem next_len (s : CS) : (nextV s).1.b.length ≤ s.b.length := by
  unfold nextV
  split
  · exact Nat.le_trans (core_len _) (clean_len s)
  · exact clean_len s
theorem value_ok (s : CS) (p : PT) (hs : s.Ok) (hp : 0 ≤ byP p ∧ byP p ≤ 2000) : (valueV s p).1.Ok := by
  unfold valueV
  split
  · exact ⟨hs.sw, fun q hq => by cases hq; exact hp⟩
  · split <;> exact ⟨hs.sw, fun q hq => by cases hq⟩
/-- A step that tells something: it tells it, too, with bytes behind. -/
theorem step_yes (s : CS) (hs : s.Ok) (h : (nextV s).2.2 = true) : (nextV s).1.Ok ∧ (nextV s).1.b.length < s.b.length ∧ ∀ c, (nextV (s.add c)).2 = (nextV s).2 ∧ Eqv (nextV (s.add c)).1 ((nextV s).1.add c) := by
  have hl := clean_len s
  cases hc : (cleanV s).2 with
  | false =>
    unfold nextV at h
    rw [hc, if_neg (by decide)] at h
    cases h
  | true =>
    obtain ⟨z1, z2, z3, z4⟩ := clean_yes s hs hc
    have ok := ok_clean s hs hc
    have e : nextV s = coreV (cleanV s).1 := by have := next_add s hs hc []; rwa [add_nil, add_nil] at this
    have ea : ∀ c, nextV (s.add c) = coreV ((cleanV s).1.add c) := next_add s hs hc
    rw [e] at h ⊢
    generalize (cleanV s).1 = t at z1 z2 ok h ea hl ⊢
    cases hw : t.wt with
    | some p =>
      have ec : ∀ c, coreV (t.add c) = valueV (t.add c) p := fun c => by
        unfold coreV
        rw [show (t.add c).wt = some p from hw]
      have e0 : coreV t = valueV t p := by have := ec []; rwa [add_nil] at this
      rw [e0] at h ⊢
      have hp := ok.wt p hw
      by_cases hb : (t.b.length : Int) < byP p + 2
      · rw [value_no t p hb] at h
        cases h
      · refine ⟨value_ok t p ok hp, Nat.lt_of_lt_of_le (value_less t p hp.1 hb) hl, fun c => ?_⟩
        rw [ea c, ec c, value_add t p hp.1 hb c]
        exact ⟨rfl, Eqv.refl _⟩
    | none =>
      have ec : ∀ c, coreV (t.add c) = (if ixb (t.b ++ c) < 0 then (if (((t.b ++ c).length : Nat) : Int) ≤ 161 then (t.add c, zA 0, false) else (⟨(t.b ++ c).drop 161, t.sw, true, none⟩, zA 9, true)) else
          let p := pT (lnV ((t.b ++ c).take (ixb (t.b ++ c)).toNat))
          if p.1 = 2 then valueV ⟨(t.b ++ c).drop (ixb (t.b ++ c) + 1).toNat, t.sw, t.rs, none⟩ p
          else (⟨(t.b ++ c).drop (ixb (t.b ++ c) + 1).toNat, swP p, t.rs, none⟩, askP p, true)) := fun c => by
        unfold coreV
        rw [show (t.add c).wt = none from hw]
        rfl
      have e0 := ec []
      rw [add_nil, List.append_nil] at e0
      by_cases hi : ixb t.b < 0
      · rw [if_pos hi] at e0
        by_cases hb : (t.b.length : Int) ≤ 161
        · rw [e0, if_pos hb] at h
          cases h
        · rw [if_neg hb] at e0
          rw [e0]
          refine ⟨⟨by show 0 ≤ t.sw; rw [z1]; exact Int.le_refl _, fun q hq => by cases hq⟩, by rw [List.length_drop]; omega, fun c => ?_⟩
          rw [ea c, ec c, ixb_neg t.b c hi]
          by_cases h0 : 0 ≤ ixb c
          · have hlong : 162 ≤ ((t.b ++ c).take ((t.b.length : Int) + ixb c).toNat).length := by
              have := ixb_lt c
              rw [List.length_take, List.length_append]
              omega
            rw [if_pos h0, if_neg (by omega), long_line _ hlong]
            dsimp only
            rw [if_neg (by decide)]
            refine ⟨rfl, fun d => next_clean ?_⟩
            have e1 : (t.b ++ c).drop ((t.b.length : Int) + ixb c + 1).toNat = c.drop (ixb c + 1).toNat := by
              rw [show ((t.b.length : Int) + ixb c + 1).toNat = t.b.length + (ixb c + 1).toNat by omega, List.drop_append, List.drop_eq_nil_of_le (by omega), List.nil_append, Nat.add_sub_cancel_left]
            have hc1 := ixb_lt c
            rw [e1, clean_id _ (show (CS.add ⟨c.drop (ixb c + 1).toNat, swP (zP 9), t.rs, none⟩ d).sw = 0 from rfl) (show (CS.add ⟨c.drop (ixb c + 1).toNat, swP (zP 9), t.rs, none⟩ d).rs = false from z2)]
            unfold CS.add cleanV
            dsimp only
            have em : min t.sw (((t.b.drop 161 ++ c ++ d).length : Nat) : Int) = 0 := by rw [z1]; omega
            rw [em, z1, z2, if_neg (by decide), if_pos rfl, show (0 : Int).toNat = 0 from rfl, List.drop_zero, List.append_assoc, ixb_neg _ _ (ixb_none _ _ hi), ixb_pos c d h0, if_pos h0, if_neg (by omega)]
            refine Prod.ext ?_ rfl
            show CS.mk _ _ _ _ = CS.mk _ _ _ _
            rw [show (((t.b.drop 161).length : Int) + ixb c + 1).toNat = (t.b.drop 161).length + (ixb c + 1).toNat by omega, drop_past, List.drop_append_of_le_length (by omega)]
            rfl
          · rw [if_neg h0, if_pos (by decide), if_neg (by rw [List.length_append]; omega)]
            refine ⟨rfl, ?_⟩
            rw [List.drop_append_of_le_length (by omega)]
            exact Eqv.refl _
      · rw [if_neg hi] at e0
        have hlt := ixb_lt t.b
        have f : ∀ c, coreV (t.add c) = (let p := pT (lnV (t.b.take (ixb t.b).toNat))
            if p.1 = 2 then valueV (CS.add ⟨t.b.drop (ixb t.b + 1).toNat, t.sw, t.rs, none⟩ c) p
            else (CS.add ⟨t.b.drop (ixb t.b + 1).toNat, swP p, t.rs, none⟩ c, askP p, true)) := fun c => by
          rw [ec c, ixb_pos t.b c (by omega), if_neg hi, List.take_append_of_le_length (by omega), List.drop_append_of_le_length (by omega)]
          rfl
        have hb := pT_by (lnV (t.b.take (ixb t.b).toNat))
        have hsw := pT_sw (lnV (t.b.take (ixb t.b).toNat))
        rw [e0] at h ⊢
        dsimp only at h f ⊢
        generalize pT (lnV (t.b.take (ixb t.b).toNat)) = p at h f hb hsw ⊢
        by_cases hp : p.1 = 2
        · rw [if_pos hp] at h ⊢
          by_cases hbl : (((⟨t.b.drop (ixb t.b + 1).toNat, t.sw, t.rs, none⟩ : CS).b.length : Nat) : Int) < byP p + 2
          · rw [value_no _ p hbl] at h
            cases h
          · refine ⟨value_ok _ p ⟨ok.sw, fun q hq => by cases hq⟩ hb, Nat.lt_of_lt_of_le (value_less _ p hb.1 hbl) (by show (t.b.drop _).length ≤ _; rw [List.length_drop]; omega), fun c => ?_⟩
            rw [ea c, f c, if_pos hp, value_add _ p hb.1 hbl c]
            exact ⟨rfl, Eqv.refl _⟩
        · rw [if_neg hp]
          refine ⟨⟨hsw, fun q hq => by cases hq⟩, by rw [List.length_drop]; omega, fun c => ?_⟩
          rw [ea c, f c, if_neg hp]
          exact ⟨rfl, Eqv.refl _⟩
/-! all steps -/
theorem ok_add {s : CS} (h : s.Ok) (c : List Int) : (s.add c).Ok := ⟨h.sw, h.wt⟩
theorem all_eqv {s t : CS} (h : nextV s = nextV t) : ∀ n, (allV n s).1 = (allV n t).1
  | 0 => rfl
  | n + 1 => by unfold allV; rw [h]
theorem all_fuel : ∀ (n : Nat) (s : CS), s.Ok → s.b.length < n → ∀ m, n ≤ m → allV m s = allV n s
  | 0, s, _, h, _, _ => absurd h (Nat.not_lt_zero _)
  | n + 1, s, hs, h, m, hm => by
    obtain ⟨q, rfl⟩ : ∃ q, m = q + 1 := ⟨m - 1, by omega⟩
    unfold allV
    cases hy : (nextV s).2.2 with
    | true =>
      obtain ⟨h1, h2, _⟩ := step_yes s hs hy
      rw [all_fuel n (nextV s).1 h1 (by omega) q (by omega)]
    | false => rfl
theorem all_app : ∀ (n : Nat) (s : CS), s.Ok → s.b.length < n → ∀ (c : List Int) (N : Nat), s.b.length + c.length < N → (allV N (s.add c)).1 = (allV n s).1 ++ (allV N ((allV n s).2.add c)).1 ∧ (allV n s).2.Ok ∧ (allV n s).2.b.length ≤ s.b.length ∧ (nextV (allV n s).2).2.2 = false
  | 0, s, _, h, _, _, _ => absurd h (Nat.not_lt_zero _)
  | n + 1, s, hs, h, c, N, hN => by
    cases hy : (nextV s).2.2 with
    | false =>
      obtain ⟨h1, h2⟩ := step_no s hs hy
      have e : allV (n + 1) s = ([], (nextV s).1) := by
        unfold allV
        rw [hy]
        rfl
      rw [e]
      refine ⟨?_, h1, next_len s, by rw [h2.next]; exact hy⟩
      rw [List.nil_append]
      exact all_eqv (h2 c).symm N
    | true =>
      obtain ⟨h1, h2, h3⟩ := step_yes s hs hy
      obtain ⟨Q, rfl⟩ : ∃ q, N = q + 1 := ⟨N - 1, by omega⟩
      obtain ⟨i1, i2, i3, i4⟩ := all_app n (nextV s).1 h1 (by omega) c Q (by omega)
      obtain ⟨k1, k2⟩ := h3 c
      have e : allV (n + 1) s = ((nextV s).2.1 :: (allV n (nextV s).1).1, (allV n (nextV s).1).2) := by
        conv => lhs; unfold allV
        rw [hy]
        rfl
      have ea : (allV (Q + 1) (s.add c)).1 = (nextV s).2.1 :: (allV Q ((nextV s).1.add c)).1 := by
        conv => lhs; unfold allV
        rw [k1, hy, if_pos rfl]
        dsimp only
        rw [all_eqv k2.next Q]
      rw [e]
      refine ⟨?_, i2, by show (allV n (nextV s).1).2.b.length ≤ _; omega, i4⟩
      rw [ea, i1]
      show _ :: (_ ++ _) = (_ :: _) ++ _
      rw [List.cons_append]
      have hlen : ((allV n (nextV s).1).2.add c).b.length < Q := by
        show ((allV n (nextV s).1).2.b ++ c).length < Q
        rw [List.length_append]
        omega
      rw [all_fuel Q _ (ok_add i2 c) hlen (Q + 1) (by omega)]
theorem all_len : ∀ (n : Nat) (s : CS), s.Ok → (allV n s).1.length ≤ s.b.length
  | 0, s, _ => Nat.zero_le _
  | n + 1, s, hs => by
    unfold allV
    cases hy : (nextV s).2.2 with
    | true =>
      obtain ⟨h1, h2, _⟩ := step_yes s hs hy
      have := all_len n (nextV s).1 h1
      rw [if_pos rfl, List.length_cons]
      omega
    | false => exact Nat.zero_le _
end Go.Proofs.YtginfaencjmhgaaDoor.Pl
