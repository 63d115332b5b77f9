/- A connection (conn.Conn): its bytes are a window of a row of its own, what waits is a block of its own; what New, Feed, take and Left do. Conditions: the readings that each theorem names. -/
import Derived.Test.YtginfaencjmhgaaDoorCn0
import Derived.Deep.QuietTactic
import Derived.BigQuiet
namespace Go.Proofs.YtginfaencjmhgaaDoor.P
open Go.RowKit Go.Proofs.YtginfaencjmhgaaDoorW.PrintWords Go.Proofs.YtginfaencjmhgaaDoorW.PrintLast Go.Proofs.YtginfaencjmhgaaDoorW.PrintMore Go.Proofs.YtginfaencjmhgaaDoor.Pl
set_option linter.unusedVariables false
set_option linter.unusedSimpArgs false
/-- What a connection never writes: blocks that are not its own, and blocks of other kinds. -/
def KeptC (W W' : World) (own : Nat → Prop) : Prop := W.heap.size ≤ W'.heap.size ∧ (∀ k : Nat, k < W.heap.size → ¬ own k → W'.heap[k]? = W.heap[k]?) ∧ ∀ (k : Nat) (cs : Array Value) (t : TypeId), W.heap[k]? = some (.cells cs t (0, 0)) → t ≠ 5 → t ≠ 53 → t ≠ 57 → W'.heap[k]? = W.heap[k]?
theorem KeptC.refl (W : World) (own : Nat → Prop) : KeptC W W own := ⟨Nat.le_refl _, fun _ _ _ => rfl, fun _ _ _ _ _ _ _ => rfl⟩
theorem KeptC.of_below {W W' : World} (own : Nat → Prop) (h : Below W.heap.size W W') : KeptC W W' own := ⟨h.size, fun k hk _ => h.block k hk, fun k cs t hc _ _ _ => h.block k (blk_lt hc)⟩
theorem KeptC.then_ {W W1 W2 : World} {own own1 : Nat → Prop} (h : KeptC W W1 own) (k : KeptC W1 W2 own1) (ho : ∀ b, own1 b → own b ∨ W.heap.size ≤ b) : KeptC W W2 own :=
  ⟨Nat.le_trans h.1 k.1, fun b hb hn => (k.2.1 b (by have := h.1; omega) (fun h1 => (ho b h1).elim hn (by omega))).trans (h.2.1 b hb hn), fun b cs t hc h1 h2 h3 => (k.2.2 b cs t ((h.2.2 b cs t hc h1 h2 h3).trans hc) h1 h2 h3).trans (h.2.2 b cs t hc h1 h2 h3)⟩
theorem KeptC.to {W W1 W2 : World} {own : Nat → Prop} {g t : Nat} {cs : Array Value} (h : KeptC W W1 own) (hk : KeepBut W1 W2 g none) (ho : own g ∨ W.heap.size ≤ g) (ht : W.heap.size ≤ g ∨ W.heap[g]? = some (.cells cs t (0, 0))) (h5 : t = 5 ∨ t = 53 ∨ t = 57) : KeptC W W2 own := by
  refine ⟨Nat.le_trans h.1 hk.1, fun b hb hn => ?_, fun b cs' t' hc h1 h2 h3 => ?_⟩
  · refine (hk.2 b (by have := h.1; omega) (fun e => ?_) (by simp)).trans (h.2.1 b hb hn)
    subst e
    exact ho.elim hn (by omega)
  · have hb := blk_lt hc
    refine (hk.2 b (by have := h.1; omega) (fun e => ?_) (by simp)).trans (h.2.2 b cs' t' hc h1 h2 h3)
    subst e
    rcases ht with ht | ht
    · omega
    · rw [ht] at hc
      injection hc with hc
      injection hc with _ hc
      subst hc
      rcases h5 with h5 | h5 | h5
      · exact h1 h5
      · exact h2 h5
      · exact h3 h5
theorem KeptC.blk {W W' : World} {own : Nat → Prop} (h : KeptC W W' own) {k : Nat} {cs : Array Value} {t : TypeId} (hb : W.heap[k]? = some (.cells cs t (0, 0))) (ht : t ≠ 5 ∧ t ≠ 53 ∧ t ≠ 57) : W'.heap[k]? = some (.cells cs t (0, 0)) := (h.2.2 k cs t hb ht.1 ht.2.1 ht.2.2).trans hb
theorem R_keptC {α : Type} {d : Kd α} {e base : Nat} {ok own : Nat → Prop} {W W' : World} {v : Value} {xs : List α} (h : d.R e W base ok v xs) (hk : KeptC W W' own) (ht : ∀ q, q ∈ e :: d.E → q ≠ 5 ∧ q ≠ 53 ∧ q ≠ 57) : d.R e W' base ok v xs :=
  Kd.R_mono (Kd.R_move (Kd.R_bound h) (fun k hk' => by
    obtain ⟨_, _, _, q, hq, cells, hc⟩ := hk'
    obtain ⟨h1, h2, h3⟩ := ht q hq
    exact hk.2.2 k cells q hc h1 h2 h3)) (fun _ hk' => hk'.1)
/-- What waits: its block's cells. -/
def pCells (p : PT) (kv : Value) : Array Value := #[.int .i64 p.1, .int .i64 p.2.1, kv, .int .u32 p.2.2.2.1, .int .i64 p.2.2.2.2.1, .string p.2.2.2.2.2.1, .int .u64 p.2.2.2.2.2.2.1, .int .u64 p.2.2.2.2.2.2.2.1, .bool p.2.2.2.2.2.2.2.2.1, .int .i64 p.2.2.2.2.2.2.2.2.2.1, .int .i64 p.2.2.2.2.2.2.2.2.2.2]
def CWt (base : Nat) (W : World) (own : Nat → Prop) (wp : Option Addr) : Option PT → Prop
  | none => wp = none
  | some p => ∃ h kv, wp = some ⟨h, 0, none⟩ ∧ base ≤ h ∧ own h ∧ W.heap[h]? = some (.cells (pCells p kv) 57 (0, 0)) ∧ Kd.R Kd.string 9 W base (fun _ => True) kv p.2.2.1
/-- A connection at g. -/
def CRd (base : Nat) (W : World) (own : Nat → Prop) (g : Nat) (s : CS) : Prop :=
  ∃ A c wp, W.heap[g]? = some (.cells #[.slice A s.b.length c, .int .i64 s.sw, .bool s.rs, .pointer wp] 53 (0, 0)) ∧ base ≤ g ∧ own g ∧ kB.Q 5 W base own (.slice A s.b.length c) s.b ∧ (∀ k, own k → k < W.heap.size) ∧ CWt base W own wp s.wt
theorem keys_kept {base : Nat} {ok own : Nat → Prop} {W W' : World} {v : Value} {xs : List ByteArray} (h : Kd.R Kd.string 9 W base ok v xs) (hk : KeptC W W' own) : Kd.R Kd.string 9 W' base ok v xs := R_keptC h hk (by simp [Kd.string, Kd.scalar])
theorem CWt.move {base : Nat} {W W' : World} {own own' : Nat → Prop} {wp : Option Addr} {wt : Option PT} (h : CWt base W own wp wt) (hh : ∀ (k : Nat) (cs : Array Value), own k → W.heap[k]? = some (.cells cs 57 (0, 0)) → W'.heap[k]? = some (.cells cs 57 (0, 0))) {o2 : Nat → Prop} (hk : KeptC W W' o2) (ho : ∀ k, own k → own' k) : CWt base W' own' wp wt := by
  cases wt with
  | none => exact h
  | some p =>
    obtain ⟨b, kv, h1, h2, h3, h4, h5⟩ := h
    exact ⟨b, kv, h1, h2, ho b h3, hh b _ h3 h4, keys_kept h5 hk⟩
theorem CRd.lt {base : Nat} {W : World} {own : Nat → Prop} {g : Nat} {s : CS} (h : CRd base W own g s) : g < W.heap.size := by
  obtain ⟨A, c, wp, h1, _⟩ := h
  exact blk_lt h1
theorem CRd.base {base : Nat} {W : World} {own : Nat → Prop} {g : Nat} {s : CS} (h : CRd base W own g s) : base ≤ g := by
  obtain ⟨A, c, wp, h1, h2, _⟩ := h
  exact h2
theorem CRd.below {base : Nat} {W W' : World} {own : Nat → Prop} {g : Nat} {s : CS} (h : CRd base W own g s) (hb : Below W.heap.size W W') : CRd base W' own g s := by
  obtain ⟨A, c, wp, h1, h2, h3, h4, h5, h6⟩ := h
  exact ⟨A, c, wp, blk_below h1 hb, h2, h3, Kd.Q_below h4 hb, fun k hk => Nat.lt_of_lt_of_le (h5 k hk) hb.size, h6.move (fun k cs _ hc => blk_below hc hb) (KeptC.of_below own hb) (fun _ h => h)⟩
/-- .. and whatever another one does. -/
theorem CRd.other {base : Nat} {W W' : World} {own own2 : Nat → Prop} {g : Nat} {s : CS} (h : CRd base W own g s) (hk : KeptC W W' own2) (hd : ∀ k, own k → ¬ own2 k) : CRd base W' own g s := by
  obtain ⟨A, c, wp, h1, h2, h3, h4, h5, h6⟩ := h
  exact ⟨A, c, wp, (hk.2.1 g (blk_lt h1) (hd g h3)).trans h1, h2, h3, Kd.Q_step h4 (fun k ho hlt => hk.2.1 k hlt (hd k ho)), fun k ho => Nat.lt_of_lt_of_le (h5 k ho) hk.1, h6.move (fun k cs ho hc => (hk.2.1 k (blk_lt hc) (hd k ho)).trans hc) hk (fun _ h => h)⟩
theorem CRd.far {base : Nat} {W W' : World} {own : Nat → Prop} {g b t : Nat} {s : CS} {cs : Array Value} (h : CRd base W own g s) (hb : W.heap[b]? = some (.cells cs t (0, 0))) (ht : t ≠ 5 ∧ t ≠ 53 ∧ t ≠ 57 ∧ t ≠ 9) (hk : KeepBut W W' b none) : CRd base W' own g s := by
  obtain ⟨A, c, wp, h1, h2, h3, h4, h5, h6⟩ := h
  refine ⟨A, c, wp, (hk.2 g (blk_lt h1) (blk_ne h1 hb ht.2.1.symm) (by simp)).trans h1, h2, h3, Kd.Q_mono (Kd.Q_keep (Kd.Q_types h4 hb (by simp [Kd.int, Kd.scalar]; exact ht.1.symm)) hk (fun _ h => h.2)) (fun _ h => h.1), fun k ho => Nat.lt_of_lt_of_le (h5 k ho) hk.1, ?_⟩
  cases hw : s.wt with
  | none => rw [hw] at h6; exact h6
  | some p =>
    rw [hw] at h6
    obtain ⟨q, kv, w1, w2, w3, w4, w5⟩ := h6
    exact ⟨q, kv, w1, w2, w3, (hk.2 q (blk_lt w4) (blk_ne w4 hb ht.2.2.1.symm) (by simp)).trans w4, Kd.R_mono (Kd.R_keep (Kd.R_types w5 hb (by simp [Kd.string, Kd.scalar]; exact ht.2.2.2.symm)) hk (fun _ h => h.2)) (fun _ h => h.1)⟩
set_option maxHeartbeats 4000000 in
set_option maxRecDepth 100000 in
theorem CRd.new (w0 w : World) (hB : Below w0.heap.size w0 w) :
    Calls Tryd.prog 9 #[] w fun e w' => ∃ g, e = .returned (.pointer (some ⟨g, 0, none⟩)) ∧ CRd w0.heap.size w' (fun k => k = g) g s0 ∧ w.heap.size ≤ g ∧ Below w0.heap.size w0 w' ∧ Below w.heap.size w w' := by
  have HB := Aside0.mk hB
  have HB0 := Aside0.mk hB
  have HB2 := Aside0.mk (Below.refl w.heap.size w)
  clear hB
  go_enter Tryd.func9, Tryd.ntmps9
  go_wp2_with (first | ((with_reducible refine gate_dst (N := 2) rfl ?_); refine bE 2 #[.slice none 0 0, .int .i64 0, .bool false, .pointer none] 53 rfl rfl ?_; intro g hg w1 hbox hb; have BX := Aside0.mk hbox; have HG := Aside0.mk hg; replace HB := Aside0.mk (below_step HB.out hb); replace HB2 := Aside0.mk hb; clear hg hbox hb))
  go_ret
  refine ⟨_, rfl, ⟨none, 0, none, BX.out, ?_, rfl, ?_, fun k hk => ?_, rfl⟩, Nat.le_of_eq HG.out.symm, HB.out, HB2.out⟩
  · have h1 := HB0.out.size
    rw [HG.out]
    exact h1
  · exact Kd.Q_of_R (Kd.R_nil _ _ _ _ _)
  · rw [hk]
    exact blk_lt BX.out
set_option maxHeartbeats 4000000 in
set_option maxRecDepth 100000 in
theorem CRd.feed (w0 w : World) (own : Nat → Prop) (g : Nat) (s : CS) (B : Option Addr) (c n : Nat) (b : List Int) (hn : b.length = n) (hI : CRd w0.heap.size w own g s) (hB : Below w0.heap.size w0 w) (hC : kB.C w B n b) (hf : s.b.length + n ≤ 65536) :
    Calls Tryd.prog 10 #[.pointer (some ⟨g, 0, none⟩), .slice B n c] w fun e w' => e = .returned (.int .i64 0) ∧ ∃ own', CRd w0.heap.size w' own' g (s.add b) ∧ (∀ k, own' k → own k ∨ w.heap.size ≤ k) ∧ KeptC w w' own ∧ Below w0.heap.size w0 w' := by
  subst hn
  have HC := Aside0.mk hC
  have HI := Aside0.mk hI
  have HB := Aside0.mk hB
  obtain ⟨A, c0, wp, hb, hg, ho, hQ, hl, hW⟩ := hI
  have HBK := Aside0.mk hb
  have HG := Aside0.mk hg
  have HO := Aside0.mk ho
  have HQ := Aside0.mk hQ
  have HL := Aside0.mk hl
  have HW := Aside0.mk hW
  obtain ⟨⟨hcz0, hcz1, hcz2, hcz3⟩, hfz0, hfz1, hfz2, hfz3⟩ := d4 HBK
  have hw : wrap64 (65536 - (s.b.length : Int)) = 65536 - (s.b.length : Int) := by unfold wrap64; omega
  have hm0 : decide (65536 - (s.b.length : Int) < (b.length : Int)) = false := decide_eq_false (by omega)
  clear hb hg ho hQ hl hW hB hC
  go_enter Tryd.func10, Tryd.ntmps10
  go_wp2_with (first | ((with_reducible refine gate_builtin (b := .append) (xs := #[.tmp 18, .tmp 19]) rfl ?_); at_builtin; refine fr_append (w0 := w0) w0.heap.size rfl (.tmp 18) (.tmp 19) 22 5 (.int .u8 0) 1 rfl Tryd.underlying22 info_u8 rfl (by decide) (.slice A s.b.length c0) s.b b _ _ _ (fun k => own k ∨ w.heap.size ≤ k) rfl rfl (Kd.Q_mono HQ.out (fun _ h => .inl h)) HC.out (fun k hk => .inr hk) HB.out HB.out.size (by omega) ?_; intro v1 w1 hq1 hb1 hg1 hat1; obtain ⟨A1, c1, rfl, hc1⟩ := Kd.Q_slice hq1; have HQ1 := Aside0.mk hq1; have HB1 := Aside0.mk hb1; have HG1 := Aside0.mk hg1; have HBK1 := Aside0.mk (blk_grown HBK.out hg1 (Kd.Q_ne HQ.out HBK.out (by decide))); clear hq1 hb1 hg1 hat1 hc1; have hcy0 : w1.cell? ⟨g, 0, none⟩ = some (.slice A s.b.length c0) := (blk_cell HBK1.out 0).trans rfl; have hfy0 : w1.frozen? ⟨g, 0, none⟩ = false := blk_frozen HBK1.out 0))
  go_ret
  rw [show s.b.length + b.length = (s.b ++ b).length from (List.length_append).symm]
  have kg : KeptC w w1 own := ⟨HG1.out.size, fun k hk hn => HG1.out.block k hk (fun he => hn (HQ.out.1 k he.symm)), fun k cs t hc h1 h2 h3 => HG1.out.block k (blk_lt hc) (Kd.Q_ne HQ.out hc (fun e => h1 e.symm))⟩
  have ks := kg.to ((KeepBut.refl w1 g none).set_ 0 (.slice A1 (s.b ++ b).length c1)) (.inl HO.out) (.inr HBK.out) (.inr (.inl rfl))
  refine ⟨rfl, fun k => (own k ∨ w.heap.size ≤ k) ∧ k < w1.heap.size, ⟨A1, c1, wp, blk_put HBK1.out 0 _ rfl, HG.out, ⟨.inl HO.out, blk_lt HBK1.out⟩, Kd.Q_set (Kd.Q_mono (Kd.Q_bound HQ1.out) (fun k hk => ⟨hk.1, hk.2.2.1⟩)) HBK1.out (by decide) 0 _, fun k hk => by simpa using hk.2, ?_⟩, fun k hk => hk.1, ks, below_set HB1.out HG.out⟩
  refine CWt.move (W := w) HW.out (fun k cs ho hc => ?_) ks (fun k hk => ⟨.inl hk, Nat.lt_of_lt_of_le (HL.out k hk) kg.1⟩)
  exact blk_far (blk_grown hc HG1.out (Kd.Q_ne HQ.out hc (by decide))) (p := ⟨g, 0, none⟩) (blk_ne hc HBK.out (by decide)) _
set_option maxHeartbeats 4000000 in
set_option maxRecDepth 100000 in
theorem CRd.feed_no (w0 w : World) (own : Nat → Prop) (g : Nat) (s : CS) (B : Option Addr) (c n : Nat) (hI : CRd w0.heap.size w own g s) (hB : Below w0.heap.size w0 w) (hn : n ≤ 140737488355328) (hs : s.b.length ≤ 65536) (hf : 65536 < s.b.length + n) :
    Calls Tryd.prog 10 #[.pointer (some ⟨g, 0, none⟩), .slice B n c] w fun e w' => e = .returned (.int .i64 2) ∧ CRd w0.heap.size w' own g s ∧ Below w0.heap.size w0 w' ∧ Below w.heap.size w w' := by
  have HI := Aside0.mk hI
  have HB := Aside0.mk hB
  obtain ⟨A, c0, wp, hb, hg, ho, hQ, hl, hW⟩ := hI
  have HBK := Aside0.mk hb
  have HG := Aside0.mk hg
  have HO := Aside0.mk ho
  have HQ := Aside0.mk hQ
  have HL := Aside0.mk hl
  have HW := Aside0.mk hW
  obtain ⟨⟨hcz0, hcz1, hcz2, hcz3⟩, hfz0, hfz1, hfz2, hfz3⟩ := d4 HBK
  have HB2 := Aside0.mk (Below.refl w.heap.size w)
  have hw : wrap64 (65536 - (s.b.length : Int)) = 65536 - (s.b.length : Int) := by unfold wrap64; omega
  have hm0 : decide (65536 - (s.b.length : Int) < (n : Int)) = true := decide_eq_true (by omega)
  clear hb hg ho hQ hl hW hB
  go_enter Tryd.func10, Tryd.ntmps10
  go_wp2
  go_ret
  exact ⟨rfl, HI.out, HB.out, HB2.out⟩
theorem CRd.set0 {base : Nat} {W : World} {own : Nat → Prop} {g : Nat} {s : CS} (h : CRd base W own g s) {A' : Option Addr} {c' : Nat} (ys : List Int) (hq : kB.Q 5 W base own (.slice A' ys.length c') ys) : CRd base (W.setCell ⟨g, 0, none⟩ (.slice A' ys.length c')) own g ⟨ys, s.sw, s.rs, s.wt⟩ := by
  obtain ⟨A, c, wp, h1, h2, h3, h4, h5, h6⟩ := h
  have ks := (KeptC.refl W own).to ((KeepBut.refl W g none).set_ 0 (.slice A' ys.length c')) (.inl h3) (.inr h1) (.inr (.inl rfl))
  exact ⟨A', c', wp, blk_put h1 0 _ rfl, h2, h3, Kd.Q_set hq h1 (by decide) 0 _, fun k hk => by simpa using h5 k hk, h6.move (fun k cs ho hc => blk_far hc (p := ⟨g, 0, none⟩) (blk_ne hc h1 (by decide)) _) ks (fun _ h => h)⟩
theorem CRd.set1 {base : Nat} {W : World} {own : Nat → Prop} {g : Nat} {s : CS} (h : CRd base W own g s) (x : Int) : CRd base (W.setCell ⟨g, 1, none⟩ (.int .i64 x)) own g ⟨s.b, x, s.rs, s.wt⟩ := by
  obtain ⟨A, c, wp, h1, h2, h3, h4, h5, h6⟩ := h
  have ks := (KeptC.refl W own).to ((KeepBut.refl W g none).set_ 1 (.int .i64 x)) (.inl h3) (.inr h1) (.inr (.inl rfl))
  exact ⟨A, c, wp, blk_put h1 1 _ rfl, h2, h3, Kd.Q_set h4 h1 (by decide) 1 _, fun k hk => by simpa using h5 k hk, h6.move (fun k cs ho hc => blk_far hc (p := ⟨g, 1, none⟩) (blk_ne hc h1 (by decide)) _) ks (fun _ h => h)⟩
theorem CRd.set2 {base : Nat} {W : World} {own : Nat → Prop} {g : Nat} {s : CS} (h : CRd base W own g s) (x : Bool) : CRd base (W.setCell ⟨g, 2, none⟩ (.bool x)) own g ⟨s.b, s.sw, x, s.wt⟩ := by
  obtain ⟨A, c, wp, h1, h2, h3, h4, h5, h6⟩ := h
  have ks := (KeptC.refl W own).to ((KeepBut.refl W g none).set_ 2 (.bool x)) (.inl h3) (.inr h1) (.inr (.inl rfl))
  exact ⟨A, c, wp, blk_put h1 2 _ rfl, h2, h3, Kd.Q_set h4 h1 (by decide) 2 _, fun k hk => by simpa using h5 k hk, h6.move (fun k cs ho hc => blk_far hc (p := ⟨g, 2, none⟩) (blk_ne hc h1 (by decide)) _) ks (fun _ h => h)⟩
theorem CRd.keepG {W W1 W2 : World} {base : Nat} {own : Nat → Prop} {g : Nat} {s : CS} (hk : KeptC W W1 own) (h : CRd base W own g s) (j : Nat) (u : Value) (e : W2 = W1.setCell ⟨g, j, none⟩ u) : KeptC W W2 own := by
  subst e
  obtain ⟨A, c, wp, h1, h2, h3, _⟩ := h
  exact hk.to ((KeepBut.refl W1 g none).set_ j u) (.inl h3) (.inr h1) (.inr (.inl rfl))
set_option maxHeartbeats 4000000 in
set_option maxRecDepth 100000 in
theorem CRd.take (w0 w : World) (own : Nat → Prop) (g : Nat) (s : CS) (n : Nat) (hI : CRd w0.heap.size w own g s) (hB : Below w0.heap.size w0 w) (hn : n ≤ s.b.length) (hs : s.b.length ≤ 65536) :
    Calls Tryd.prog 21 #[.pointer (some ⟨g, 0, none⟩), .int .i64 (n : Int)] w fun e w' => e = .returned (.string (strOfNums (s.b.take n))) ∧ CRd w0.heap.size w' own g ⟨s.b.drop n, s.sw, s.rs, s.wt⟩ ∧ KeptC w w' own ∧ Below w0.heap.size w0 w' := by
  have HI := Aside0.mk hI
  have HB := Aside0.mk hB
  obtain ⟨A, c0, wp, hb, hg, ho, hQ, hl, hW⟩ := hI
  have HBK := Aside0.mk hb
  have HG := Aside0.mk hg
  have HO := Aside0.mk ho
  have HQ := Aside0.mk hQ
  have HL := Aside0.mk hl
  have HW := Aside0.mk hW
  obtain ⟨⟨hcz0, hcz1, hcz2, hcz3⟩, hfz0, hfz1, hfz2, hfz3⟩ := d4 HBK
  have hC := (Kd.Q_reads' hQ).2.2
  have hcap : s.b.length ≤ c0 := (Kd.Q_reads' hQ).2.1
  have hCt : kB.C w A (s.b.take n).length (s.b.take n) := by
    have hl : (s.b.take n).length = n := by rw [List.length_take]; omega
    rw [hl]
    refine ⟨hl, by omega, fun hp => ?_⟩
    obtain ⟨ad, hA, hr⟩ := hC.2.2 (by omega)
    exact ⟨ad, hA, fun j p hp => hr j p (by rw [List.getElem?_take] at hp; split at hp <;> first | exact hp | cases hp)⟩
  have hlt : (s.b.take n).length = n := by rw [List.length_take]; omega
  have hcv := Kd.C_string (P := Tryd.prog) (w := w) (A := A) (c := c0) Tryd.underlying22 Tryd.underlying5 Tryd.underlying9 hCt
  rw [hlt] at hcv
  obtain ⟨A4, hcut, hcutQ⟩ := fr_cut A s.b.length c0 n hn
  have HQ4 := Aside0.mk (hcutQ _ _ _ _ rfl HQ.out)
  have h0 : (0 : Int) ≤ (n : Int) := by omega
  have h2 : (n : Int) ≤ (c0 : Int) := by omega
  clear hb hg ho hQ hl hW hB hC hCt hcutQ
  go_enter Tryd.func21, Tryd.ntmps21
  go_wp2
  go_ret
  have hl : (s.b.drop n).length = s.b.length - n := List.length_drop
  have e := HQ4.out
  rw [← hl] at e
  have st := HI.out.set0 (s.b.drop n) e
  have ks := HI.out.keepG (KeptC.refl w own) 0 (.slice A4 (s.b.drop n).length (c0 - n)) rfl
  rw [hl] at st ks
  exact ⟨rfl, st, ks, below_set HB.out HG.out⟩
set_option maxHeartbeats 4000000 in
set_option maxRecDepth 100000 in
theorem CRd.left (w0 w : World) (own : Nat → Prop) (g : Nat) (s : CS) (hI : CRd w0.heap.size w own g s) (hB : Below w0.heap.size w0 w) :
    Calls Tryd.prog 14 #[.pointer (some ⟨g, 0, none⟩)] w fun e w' => e = .returned (.tuple #[.int .i64 (s.b.length : Int), .int .i64 s.sw]) ∧ CRd w0.heap.size w' own g s ∧ Below w.heap.size w w' ∧ Below w0.heap.size w0 w' := by
  have HI := Aside0.mk hI
  have HB := Aside0.mk hB
  obtain ⟨A, c0, wp, hb, hg, ho, hQ, hl, hW⟩ := hI
  have HBK := Aside0.mk hb
  have HG := Aside0.mk hg
  have HO := Aside0.mk ho
  have HQ := Aside0.mk hQ
  have HL := Aside0.mk hl
  have HW := Aside0.mk hW
  obtain ⟨⟨hcz0, hcz1, hcz2, hcz3⟩, hfz0, hfz1, hfz2, hfz3⟩ := d4 HBK
  have HB2 := Aside0.mk (Below.refl w.heap.size w)
  clear hb hg ho hQ hl hW hB
  go_enter Tryd.func14, Tryd.ntmps14
  go_wp2
  go_quiet (fail)
  go_wp2
  go_ret2
  exact ⟨rfl, HI.out.below (bH HB2.out), bH HB2.out, bH HB.out⟩
end Go.Proofs.YtginfaencjmhgaaDoor.P
