/- A connection's reader (frame.Reader): its bytes are a window of a row of its own; what Feed does. Conditions: the readings that each theorem names. -/
import Derived.Test.YtdepkgikdmlgiaaPx13
import Derived.Test.YtdepkgikdmlgiaaShort
namespace Go.Proofs.Ytdepkgikdmlgiaa.P
open Go.RowKit Go.Proofs.YtdepkgikdmlgiaaW.PrintWords Go.Proofs.YtdepkgikdmlgiaaW.PrintLast Go.Proofs.YtdepkgikdmlgiaaW.PrintMore
set_option linter.unusedVariables false
set_option linter.unusedSimpArgs false
abbrev kB := Kd.int .u8
section
variable {P : Program} {ops : Array Oper} {rest : List Oper} {o : Oper} {a : Act} {Q' : Exit → Act → World → Prop}
theorem fr_run {W : World} (base : Nat) (t ty e : TypeId) (z : Value) (bytes : Nat)
    (ht : P.underlying t = some (.slice e)) (hinfo : (P.info? e).map (fun i => (i.zero, i.size, i.bytes)) = some (some z, 1, bytes)) (hz : z.cells.size = 1) (hb0 : 0 < bytes)
    (v : Value) (xs ys : List Int) (A : Option Addr) (m c : Nat) (ok : Nat → Prop)
    (HO : kB.Q e W base ok v xs) (HR : kB.C W A m ys) (hfresh : ∀ k, W.heap.size ≤ k → ok k) (hbase : base ≤ W.heap.size) (hl : (xs.length + m) * bytes ≤ 140737488355328) :
    ∃ v1 w1, (Builtin.append_ #[t, t] ty #[v, .slice A m c]).run P W = .ok v1 w1 ∧ kB.Q e w1 base ok v1 (xs ++ ys) ∧ W.grownBy w1 v.ownBlock ∧ (v1.ownBlock = v.ownBlock ∨ ∃ b, v1.ownBlock = some b ∧ W.heap.size ≤ b) := by
  obtain ⟨i0, hi, hzz⟩ := Option.map_eq_some_iff.1 hinfo
  simp only [Prod.mk.injEq] at hzz
  obtain ⟨hz0, hz1, hz2⟩ := hzz
  have hm : ys.length = m := HR.1
  have hlen : xs.length + m ≤ 140737488355328 := Nat.le_trans (Nat.le_mul_of_pos_right _ hb0) hl
  obtain ⟨hok, inner, hown, hr⟩ := HO
  by_cases h0 : m = 0
  · subst h0
    obtain rfl : ys = [] := List.eq_nil_of_length_eq_zero hm
    refine ⟨v, W, ?_, by rw [List.append_nil]; exact ⟨hok, inner, hown, hr⟩, World.grownBy.refl W _, .inl rfl⟩
    rcases hown.2 with ⟨hn, A', rfl, _⟩ | ⟨g, off, cap, cur, rfl, _, _, hnc, _⟩
    · cases A' <;> cases A <;> simp [Builtin.append_, run_underlying ht, sizeOf, typeInfo, hi, Builtin.lenOf, Builtin.firstCells, storeCells, loadCells, loadCellsFrom]
    · cases A <;> simp [Builtin.append_, run_underlying ht, sizeOf, typeInfo, hi, Builtin.lenOf, Builtin.firstCells, hnc, storeCells, loadCells, loadCellsFrom]
  · cases A with
    | none =>
      obtain ⟨ad, h, _⟩ := HR.2.2 (Nat.pos_of_ne_zero h0)
      cases h
    | some ad =>
      obtain ⟨news, hnr, hnc⟩ := ReadsRow.inner_ HR
      have hone : ∀ u ∈ news, u.oneCell' = true := by
        intro u hu
        obtain ⟨q, hq, rfl⟩ := List.mem_iff_getElem.1 hu
        have hql : q < ys.length := by have h9 : news.length = ys.length * 1 := hnr.1; omega
        have hc := hnr.2 q _ (List.getElem?_eq_getElem hql)
        have hc : (news.drop (q * 1)).take 1 = [Value.int .u8 ys[q]] := hc
        rw [Nat.mul_one, List.drop_eq_getElem_cons hq] at hc
        simp only [List.take_succ_cons, List.take_zero, List.cons.injEq, and_true] at hc
        rw [hc]
        rfl
      obtain ⟨v1, w1, hrun, h2, hg, hat⟩ := q_append (P := P) W base t ty e i0 z 1 bytes ht hi hz0 hz1 hz2 hz (by decide) v xs.length inner hown ad m c news (by rw [hnr.1, hm]; rfl) hnc hone (Nat.pos_of_ne_zero h0) (by simp only [maxLen]; omega) hl hbase
      refine ⟨v1, w1, hrun, ⟨fun k hk => ?_, inner ++ news, by rw [List.length_append, hm]; exact h2, Kd.reps_append hr hnr⟩, hg, hat⟩
      rcases hat with hat | ⟨b, hb, hle⟩
      · exact hok k (hat ▸ hk)
      · rw [hb] at hk
        injection hk with hk
        exact hfresh k (by omega)
theorem fr_append {w0 W : World} (base : Nat) (hgd : o.guard = none) (s x : Operand) (t e : TypeId) (z : Value) (bytes : Nat)
    (ho : o.op = .call { callee := .builtin .append, args := #[s, x], argTypes := #[t, t] })
    (ht : P.underlying t = some (.slice e)) (hinfo : (P.info? e).map (fun i => (i.zero, i.size, i.bytes)) = some (some z, 1, bytes)) (hz : z.cells.size = 1) (hb0 : 0 < bytes)
    (v : Value) (xs ys : List Int) (A : Option Addr) (m c : Nat) (ok : Nat → Prop) (hs : a.eval s = v) (hx : a.eval x = .slice A m c)
    (HO : kB.Q e W base ok v xs) (HR : kB.C W A m ys) (hfresh : ∀ k, W.heap.size ≤ k → ok k)
    (HB : Below base w0 W) (hbase : base ≤ W.heap.size) (hl : (xs.length + m) * bytes ≤ 140737488355328)
    (h : ∀ v1 w1, kB.Q e w1 base ok v1 (xs ++ ys) → Below base w0 w1 → W.grownBy w1 v.ownBlock → (v1.ownBlock = v.ownBlock ∨ ∃ b, v1.ownBlock = some b ∧ W.heap.size ≤ b) → wpList P ops Q' rest (a.put o.dst v1) w1) :
    wpList P ops Q' (o :: rest) a W := by
  have hown : QRow W base e kB.sz v xs.length HO.2.choose := HO.2.choose_spec.1
  obtain ⟨v1, w1, hr1, h1, hg, hat⟩ := fr_run (P := P) base t o.type e z bytes ht hinfo hz hb0 v xs ys A m c ok HO HR hfresh hbase hl
  refine wpList_plain hgd fun K hK => ?_
  unfold Oper.wp execOp
  simp only [ho, resolve, invoke, builtin, Sem.run_bind, Sem.run_pure, Result.andThen_ok, List.map_toArray, List.map_cons, List.map_nil, hs, hx, hr1]
  exact hK _ _ (h v1 w1 h1 (HB.grown hg hbase (fun k hk => (q_typed hown k hk).1)) hg hat)
end
/-- The reader at g: its bytes, and what was told. -/
def FRd (w0 W : World) (g : Nat) (bs : List Int) (tl : Int) : Prop :=
  ∃ A c, W.heap[g]? = some (.cells #[.slice A bs.length c, .int .i64 tl] 95 (0, 0)) ∧ w0.heap.size ≤ g ∧ kB.Q 5 W w0.heap.size (fun k => k ≠ g) (.slice A bs.length c) bs
/-- Blocks of other kinds are left as they are, but for g. -/
def KeptT (w w' : World) (g : Nat) : Prop := w.heap.size ≤ w'.heap.size ∧ ∀ k cs t, w.heap[k]? = some (.cells cs t (0, 0)) → t ≠ 5 → k ≠ g → w'.heap[k]? = some (.cells cs t (0, 0))
theorem KeptT.refl (w : World) (g : Nat) : KeptT w w g := ⟨Nat.le_refl _, fun _ _ _ h _ _ => h⟩
theorem KeptT.then_ {w w1 w2 : World} {g : Nat} (h : KeptT w w1 g) (k : KeptT w1 w2 g) : KeptT w w2 g := ⟨Nat.le_trans h.1 k.1, fun b cs t hb ht hg => k.2 b cs t (h.2 b cs t hb ht hg) ht hg⟩
theorem KeptT.of_below {w w1 : World} {g : Nat} (h : Below w.heap.size w w1) : KeptT w w1 g := ⟨h.size, fun b cs t hb _ _ => blk_below hb h⟩
theorem FRd.below {w0 W W1 : World} {g : Nat} {bs : List Int} {tl : Int} (h : FRd w0 W g bs tl) (hb : Below W.heap.size W W1) : FRd w0 W1 g bs tl := by
  obtain ⟨A, c, h1, h2, h3⟩ := h
  exact ⟨A, c, blk_below h1 hb, h2, Kd.Q_below h3 hb⟩
theorem FRd.lt {w0 W : World} {g : Nat} {bs : List Int} {tl : Int} (h : FRd w0 W g bs tl) : g < W.heap.size := by
  obtain ⟨A, c, h1, h2, h3⟩ := h
  exact blk_lt h1
def feedE (bs : List Int) (tl : Int) (n : Nat) : Int := if tl = 0 then (if (n : Int) > 2097152 - (bs.length : Int) then 2 else 0) else 5
def feedB (bs : List Int) (tl : Int) (b : List Int) : List Int := if tl = 0 then (if (b.length : Int) > 2097152 - (bs.length : Int) then bs else bs ++ b) else bs
theorem info_u8 : (Try.prog.info? 5).map (fun i => (i.zero, i.size, i.bytes)) = some (some (.int .u8 0), 1, 1) := by kernel_rfl
set_option maxHeartbeats 4000000 in
set_option maxRecDepth 100000 in
theorem FRd.feed (w0 w : World) (g : Nat) (bs : List Int) (tl : Int) (B : Option Addr) (c : Nat) (b : List Int) (hI : FRd w0 w g bs tl) (hB : Below w0.heap.size w0 w) (hC : kB.C w B b.length b) (hn : bs.length ≤ 2097152) (hn2 : b.length ≤ 2097152) :
    Calls Try.prog 19 #[.pointer (some ⟨g, 0, none⟩), .slice B b.length c] w fun e w' => e = .returned (.int .i64 (feedE bs tl b.length)) ∧ FRd w0 w' g (feedB bs tl b) tl ∧ Below w0.heap.size w0 w' ∧ KeptT w w' g := by
  have HI := Aside0.mk hI
  have HB := Aside0.mk hB
  have HC := Aside0.mk hC
  obtain ⟨A, c0, hb, hg, hQ⟩ := hI
  have hcz0 : w.cell? ⟨g, 0, none⟩ = some (.slice A bs.length c0) := (blk_cell hb 0).trans rfl
  have hcz1 : w.cell? ⟨g, 1, none⟩ = some (.int .i64 tl) := (blk_cell hb 1).trans rfl
  have hfz0 : w.frozen? ⟨g, 0, none⟩ = false := blk_frozen hb 0
  have hfz1 : w.frozen? ⟨g, 1, none⟩ = false := blk_frozen hb 1
  have HBK := Aside0.mk hb
  have HG := Aside0.mk hg
  have HQ := Aside0.mk hQ
  clear hb hg hQ hB hC
  by_cases ht : tl = 0
  · have ht0 : (tl != 0) = false := bne_eq_false_iff_eq.2 ht
    by_cases hm : (b.length : Int) > 2097152 - (bs.length : Int)
    · have hm0 : decide (2097152 - (bs.length : Int) < (b.length : Int)) = true := decide_eq_true hm
      have hE : feedE bs tl b.length = 2 := by unfold feedE; rw [if_pos ht, if_pos hm]
      have hF : feedB bs tl b = bs := by unfold feedB; rw [if_pos ht, if_pos hm]
      rw [hE, hF]
      have hw : wrap64 (2097152 - (bs.length : Int)) = 2097152 - (bs.length : Int) := by unfold wrap64; omega
      clear ht hm hE hF
      go_enter Try.func19, Try.ntmps19
      go_wp2
      go_ret
      exact ⟨rfl, HI.out, HB.out, KeptT.refl _ _⟩
    · have hm0 : decide (2097152 - (bs.length : Int) < (b.length : Int)) = false := decide_eq_false hm
      have hE : feedE bs tl b.length = 0 := by unfold feedE; rw [if_pos ht, if_neg hm]
      have hF : feedB bs tl b = bs ++ b := by unfold feedB; rw [if_pos ht, if_neg hm]
      rw [hE, hF]
      have hw : wrap64 (2097152 - (bs.length : Int)) = 2097152 - (bs.length : Int) := by unfold wrap64; omega
      clear ht hm hE hF
      go_enter Try.func19, Try.ntmps19
      go_wp2_with (first | ((with_reducible refine gate_builtin (b := .append) (xs := #[.tmp 25, .tmp 26]) rfl ?_); at_builtin; refine fr_append (w0 := w0) w0.heap.size rfl (.tmp 25) (.tmp 26) 46 5 (.int .u8 0) 1 rfl Try.underlying46 info_u8 rfl (by decide) (.slice A bs.length c0) bs b _ _ _ (fun k => k ≠ g) rfl rfl HQ.out HC.out (fun k hk he => by have := HI.out.lt; omega) HB.out HB.out.size (by omega) ?_; intro v1 w1 hq1 hb1 hg1 hat1; obtain ⟨A1, c1, rfl, hc1⟩ := Kd.Q_slice hq1; have HQ1 := Aside0.mk hq1; have HB1 := Aside0.mk hb1; have HG1 := Aside0.mk hg1; have HBK1 := Aside0.mk (blk_grown HBK.out hg1 (Kd.Q_ne HQ.out HBK.out (by decide))); clear hq1 hb1 hg1 hat1 hc1; have hcy0 : w1.cell? ⟨g, 0, none⟩ = some (.slice A bs.length c0) := (blk_cell HBK1.out 0).trans rfl; have hfy0 : w1.frozen? ⟨g, 0, none⟩ = false := blk_frozen HBK1.out 0))
      go_ret
      refine ⟨rfl, ⟨A1, c1, by simpa using blk_set HBK1.out 0 (.slice A1 (bs ++ b).length c1), HG.out, Kd.Q_set HQ1.out HBK1.out (by decide) 0 _⟩, below_set HB1.out HG.out, ?_⟩
      refine ⟨Nat.le_trans HG1.out.size (by simp), fun k cs t hk ht hne => ?_⟩
      refine blk_far (p := ⟨g, 0, none⟩) ?_ hne _
      exact blk_grown hk HG1.out (Kd.Q_ne HQ.out hk (fun h => ht h.symm))
  · have ht0 : (tl != 0) = true := bne_iff_ne.2 ht
    have hE : feedE bs tl b.length = 5 := by unfold feedE; rw [if_neg ht]
    have hF : feedB bs tl b = bs := by unfold feedB; rw [if_neg ht]
    rw [hE, hF]
    clear ht hE hF
    go_enter Try.func19, Try.ntmps19
    go_wp2
    go_ret
    exact ⟨rfl, HI.out, HB.out, KeptT.refl _ _⟩
end Go.Proofs.Ytdepkgikdmlgiaa.P
