/- Two connections side by side, what same says of equal lists, rows that are made. Conditions: the readings that each theorem names. -/
import Derived.Test.YtginfaencjmhgaaDoorCn7
namespace Go.Proofs.YtginfaencjmhgaaDoor.Pl
set_option linter.unusedVariables false
set_option linter.unusedSimpArgs false
open Go Go.RowKit Go.Proofs.YtginfaencjmhgaaDoor.P Go.Proofs.YtginfaencjmhgaaDoor.Lim Go.Proofs.YtginfaencjmhgaaDoorW.PrintWords
theorem same1 (x : S50) (hn : x.f1.f1.length ≤ 4611686018427387904) : tallboyref19_Same.L x.f0 x.f1.f0 x.f1.f1 x.f1.f2 x.f1.f3 x.f1.f4 x.f1.f5 x.f1.f6 x.f1.f7 x.f0 x.f1.f0 x.f1.f1 x.f1.f2 x.f1.f3 x.f1.f4 x.f1.f5 x.f1.f6 x.f1.f7 = some true := by
  rw [tallboyref19_Same.L_eq, if_pos rfl, same_refl _ _ _ _ _ _ _ _ hn]
  rfl
theorem sames_loop (l : List S50) (hl : l.length ≤ 4611686018427387904) (hn : ∀ x ∈ l, x.f1.f1.length ≤ 4611686018427387904) (d : Nat) : ∀ i : Nat, i + d = l.length → tallboylaw19_same.l0L l l (i : Int) = some true := by
  induction d with
  | zero =>
    intro i hi
    rw [tallboylaw19_same.l0L_eq, if_neg (by omega)]
  | succ d ih =>
    intro i hi
    have hx : (rd_T50 l (i : Int)) ∈ l := by
      have : i < l.length := by omega
      show l.getD (i : Int).toNat _ ∈ l
      rw [Int.toNat_natCast, List.getD_eq_getElem?_getD, List.getElem?_eq_getElem this]
      exact List.getElem_mem this
    rw [tallboylaw19_same.l0L_eq, if_pos (by omega), if_pos (by omega), if_pos (by omega), same1 _ (hn _ hx)]
    rw [Option.bind_some, if_pos rfl, show wrap64 ((i : Int) + 1) = ((i + 1 : Nat) : Int) by unfold wrap64; omega]
    exact ih (i + 1) (by omega)
theorem sames (l : List S50) (hl : l.length ≤ 4611686018427387904) (hn : ∀ x ∈ l, x.f1.f1.length ≤ 4611686018427387904) : tallboylaw19_same.L l l = some true := by
  rw [tallboylaw19_same.L_eq, if_pos rfl]
  exact sames_loop l hl hn l.length 0 (by omega)
theorem ask_keys {a : AT} (h : AskOk a) : a.2.2.1.length ≤ 1000 := by
  cases h with
  | ready kd keys fl ex v cas del q _ hk => exact hk
  | big kd a q => exact (by decide : (1 : Nat) ≤ 1000)
  | no v _ => exact (by decide : (0 : Nat) ≤ 1000)
theorem sames_k (l : List AT) (hl : l.length ≤ 65536) (hn : ∀ a ∈ l, AskOk a) : ∃ k, tallboylaw19_same.f k (l.map cvA) (l.map cvA) = some true := by
  refine ((tallboylaw19_same.Llm _ _).1 _ (sames (l.map cvA) (by rw [List.length_map]; omega) fun x hx => ?_)).rounds
  obtain ⟨a, ha, rfl⟩ := List.mem_map.1 hx
  exact Nat.le_trans (ask_keys (hn a ha)) (by decide)
end Go.Proofs.YtginfaencjmhgaaDoor.Pl
namespace Go.Proofs.YtginfaencjmhgaaDoor.P
open Go.RowKit Go.Proofs.YtginfaencjmhgaaDoorW.PrintWords Go.Proofs.YtginfaencjmhgaaDoorW.PrintLast Go.Proofs.YtginfaencjmhgaaDoorW.PrintMore Go.Proofs.YtginfaencjmhgaaDoor.Pl Go.Proofs.YtginfaencjmhgaaDoor.Lim
set_option linter.unusedVariables false
set_option linter.unusedSimpArgs false
theorem sames_calls {w : World} (l m : List AT) (hlm : l = m) (A B : Option Addr) (n n' c d : Nat) (hn : n = (l.map cvA).length) (hn' : n' = (m.map cvA).length) (hA : Kd.C k50 w A n (l.map cvA)) (hc : n ≤ c) (hB : Kd.C k50 w B n' (m.map cvA)) (hd : n' ≤ d) (hl : l.length ≤ 65536) (hk : ∀ a ∈ l, AskOk a) :
    Calls Tryd.prog 12 #[.slice A n c, .slice B n' d] w fun e w' => e = .returned (.bool true) ∧ Below w.heap.size w w' := by
  subst hlm hn hn'
  obtain ⟨k, h⟩ := sames_k l hl hk
  exact tallboylaw19_same.calls k A c _ B d _ true w hA hc hB hd h
/-- Two connections side by side. -/
structure Two (base : Nat) (W : World) (oc : Nat → Prop) (gc : Nat) (sc : CS) (od : Nat → Prop) (gd : Nat) (sd : CS) : Prop where
  c : CRd base W oc gc sc
  d : CRd base W od gd sd
  a : ∀ k, oc k → ¬ od k
theorem CRd.own_lt {base : Nat} {W : World} {own : Nat → Prop} {g : Nat} {s : CS} (h : CRd base W own g s) : ∀ k, own k → k < W.heap.size := by
  obtain ⟨A, c, wp, h1, h2, h3, h4, h5, h6⟩ := h
  exact h5
theorem Two.stepL {base : Nat} {W W' : World} {oc oc' od : Nat → Prop} {gc gd : Nat} {sc sc' sd : CS} (h : Two base W oc gc sc od gd sd) (hc : CRd base W' oc' gc sc') (ho : ∀ k, oc' k → oc k ∨ W.heap.size ≤ k) (hk : KeptC W W' oc) : Two base W' oc' gc sc' od gd sd :=
  ⟨hc, h.d.other hk fun k hd hc => h.a k hc hd, fun k h1 h2 => (ho k h1).elim (fun e => h.a k e h2) fun e => by have := h.d.own_lt k h2; omega⟩
theorem Two.stepR {base : Nat} {W W' : World} {oc od od' : Nat → Prop} {gc gd : Nat} {sc sd sd' : CS} (h : Two base W oc gc sc od gd sd) (hd : CRd base W' od' gd sd') (ho : ∀ k, od' k → od k ∨ W.heap.size ≤ k) (hk : KeptC W W' od) : Two base W' oc gc sc od' gd sd' :=
  ⟨h.c.other hk h.a, hd, fun k h1 h2 => (ho k h2).elim (fun e => h.a k h1 e) fun e => by have := h.c.own_lt k h1; omega⟩
theorem Two.below {base : Nat} {W W' : World} {oc od : Nat → Prop} {gc gd : Nat} {sc sd : CS} (h : Two base W oc gc sc od gd sd) (hb : Below W.heap.size W W') : Two base W' oc gc sc od gd sd := ⟨h.c.below hb, h.d.below hb, h.a⟩
theorem Two.far {base : Nat} {W W' : World} {oc od : Nat → Prop} {gc gd b t : Nat} {sc sd : CS} {cs : Array Value} (h : Two base W oc gc sc od gd sd) (hb : W.heap[b]? = some (.cells cs t (0, 0))) (ht : t ≠ 5 ∧ t ≠ 53 ∧ t ≠ 57 ∧ t ≠ 9) (hk : KeepBut W W' b none) : Two base W' oc gc sc od gd sd := ⟨h.c.far hb ht hk, h.d.far hb ht hk, h.a⟩
/-- .. what is done to a row of one's own. -/
theorem Two.row {base : Nat} {W W' : World} {oc od : Nat → Prop} {gc gd b : Nat} {sc sd : CS} (h : Two base W oc gc sc od gd sd) (hk : KeptC W W' fun k => k = b) (hc : ¬ oc b) (hd : ¬ od b) : Two base W' oc gc sc od gd sd := ⟨h.c.other hk fun k ho e => hc (e ▸ ho), h.d.other hk fun k ho e => hd (e ▸ ho), h.a⟩
theorem Two.begin {w0 w1 w2 : World} {gc gd : Nat} (h : CRd w0.heap.size w1 (fun k => k = gc) gc s0) (hb : Below w1.heap.size w1 w2) (hd : CRd w0.heap.size w2 (fun k => k = gd) gd s0) (hg : w1.heap.size ≤ gd) : Two w0.heap.size w2 (fun k => k = gc) gc s0 (fun k => k = gd) gd s0 :=
  ⟨h.below hb, hd, fun k h1 h2 => by
    have := h.lt
    have h1 : k = gc := h1
    have h2 : k = gd := h2
    omega⟩
/-- A row of one's own: its block. -/
theorem own_shape {W : World} {base b : Nat} {ok : Nat → Prop} {v : Value} {xs : List Int} (h : kB.R 5 W base ok v xs) (hb : v.ownBlock = some b) : ∃ c, v = .slice (some ⟨b, 0, none⟩) xs.length c := by
  obtain ⟨ho, inner, hr, _⟩ := h
  rcases hr.2 with ⟨rfl, _⟩ | ⟨g, cap, cur, rfl, _⟩
  · cases hb
  · have e : some g = some b := hb
    injection e with e
    exact ⟨cap, by rw [e]⟩
theorem row_kept {W : World} {base b c : Nat} {ok : Nat → Prop} {xs : List Int} (h : kB.R 5 W base ok (.slice (some ⟨b, 0, none⟩) xs.length c) xs) (j : Nat) (u : Value) : KeptC W (W.setCell ⟨b, j, none⟩ u) fun k => k = b := by
  obtain ⟨cells, hc⟩ := Kd.R_typed h b rfl
  exact (KeptC.refl W _).to ((KeepBut.refl W b none).set_ j u) (.inl rfl) (.inr hc) (.inl rfl)
theorem row_grows {W W' : World} {v : Value} (h : W.grownBy W' none) : Below W.heap.size W W' := (Below.refl W.heap.size W).grown h (Nat.le_refl _) (fun k hk => by cases hk)
theorem mod_n (a : Int) (m c : Nat) (hm : 0 < m) (hm2 : m ≤ 100000) (hc : c ≤ 100000) : ∃ n : Nat, wrap64 ((c : Int) + wrap64 ((IntKind.u64.wrap a).tmod (m : Int))) = (n : Int) ∧ c ≤ n ∧ n < c + m := by
  have u0 : 0 ≤ IntKind.u64.wrap a := by rw [IntKind.wrap_u64]; omega
  have t0 : 0 ≤ Int.tmod (IntKind.u64.wrap a) (m : Int) := Int.tmod_nonneg _ u0
  have t1 : Int.tmod (IntKind.u64.wrap a) (m : Int) < (m : Int) := Int.tmod_lt_of_pos _ (by omega)
  generalize Int.tmod (IntKind.u64.wrap a) (m : Int) = z at t0 t1
  refine ⟨c + z.toNat, ?_, by omega, by omega⟩
  have e : wrap64 z = z := by unfold wrap64; omega
  rw [e]
  unfold wrap64
  omega
theorem row_kept' {W : World} {base b c n : Nat} {ok : Nat → Prop} {xs : List Int} (h : kB.R 5 W base ok (.slice (some ⟨b, 0, none⟩) n c) xs) (j : Nat) (u : Value) : KeptC W (W.setCell ⟨b, j, none⟩ u) fun k => k = b := by
  obtain ⟨rfl, _⟩ := Kd.R_reads' h
  exact row_kept h j u
theorem rep_set (a : Int) (i n : Nat) (h : i < n) : (List.replicate i a ++ List.replicate (n - i) (0 : Int)).set i a = List.replicate (i + 1) a ++ List.replicate (n - (i + 1)) 0 := by
  rw [List.set_append_right _ _ (by simp), List.length_replicate, Nat.sub_self, show n - i = (n - (i + 1)) + 1 by omega, List.replicate_succ (n := n - (i + 1)), List.set_cons_zero, List.replicate_succ' (n := i), List.append_assoc]
  rfl
theorem R_len {w : World} {e base : Nat} {ok : Nat → Prop} {A : Option Addr} {c : Nat} {l : List AT} (h : k50.R e w base ok (.slice A (l.map cvA).length c) (l.map cvA)) : k50.R e w base ok (.slice A l.length c) (l.map cvA) := by rwa [List.length_map] at h
theorem R_rd {w : World} {e base : Nat} {ok : Nat → Prop} {A : Option Addr} {c : Nat} {l : List AT} (h : k50.R e w base ok (.slice A l.length c) (l.map cvA)) : l.length ≤ c ∧ Kd.C k50 w A l.length (l.map cvA) := by
  have := Kd.R_reads' h
  rw [List.length_map] at this
  exact this.2
end Go.Proofs.YtginfaencjmhgaaDoor.P
