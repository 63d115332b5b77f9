/- A connection's reader (frame.Reader): what Next does. Conditions: the readings that each theorem names. -/
import Derived.Test.YtdepkgikdmlgiaaFr1
import Derived.Test.YtdepkgikdmlgiaaPx8
namespace Go.Proofs.Ytdepkgikdmlgiaa.P
open Go.RowKit Go.Proofs.YtdepkgikdmlgiaaW.PrintWords Go.Proofs.YtdepkgikdmlgiaaW.PrintLast Go.Proofs.YtdepkgikdmlgiaaW.PrintMore
set_option linter.unusedVariables false
set_option linter.unusedSimpArgs false
theorem fr_cut (A : Option Addr) (n c m : Nat) (hm : m ≤ n) : ∃ A' : Option Addr, (∀ W : World, (Instr.slice 46 (.slice A n c) (some (.int .i64 (m : Int))) none none).run Try.prog W = .ok (.slice A' (n - m) (c - m)) W) ∧
    ∀ (W : World) (base : Nat) (ok : Nat → Prop) (xs : List Int), xs.length = n → kB.Q 5 W base ok (.slice A n c) xs → kB.Q 5 W base ok (.slice A' (n - m) (c - m)) (xs.drop m) := by
  obtain ⟨i, hi, hi2⟩ := Option.map_eq_some_iff.1 info_u8
  simp only [Prod.mk.injEq] at hi2
  refine ⟨if c = m then A else A.map (·.add m), fun W => ?_, fun W base ok xs hl h => by simpa [show kB.sz = 1 from rfl] using Kd.Q_drop (k := m) h (by omega)⟩
  have hel : Try.prog.elem 46 = 5 := by simp [Program.elem, Try.underlying46]
  have hu : Try.prog.underlying 46 = some (.slice (Try.prog.elem 46)) := by rw [hel]; exact Try.underlying46
  rw [run_slice_l W 46 A n c hu .i64 (m : Int) (by omega) (by omega), hel]
  simp [sizeOf, typeInfo, hi, hi2.2.1, sliced, Result.andThen]
theorem FRd.far {w0 W : World} {g b j : Nat} {bs : List Int} {tl : Int} {cs : Array Value} (h : FRd w0 W g bs tl) (hb : W.heap[b]? = some (.cells cs 31 (0, 0))) (u : Value) : FRd w0 (W.setCell ⟨b, j, none⟩ u) g bs tl := by
  obtain ⟨A, c, h1, h2, h3⟩ := h
  have hne : g ≠ b := by
    rintro rfl
    rw [h1] at hb
    injection hb with hb
    injection hb with _ ht
    exact absurd ht (by decide)
  exact ⟨A, c, blk_far h1 hne u, h2, Kd.Q_set h3 hb (by decide) j u⟩
theorem FRd.blk {w0 W : World} {g : Nat} {bs : List Int} {tl : Int} (h : FRd w0 W g bs tl) {b : Nat} {cs : Array Value} {t : TypeId} (hb : W.heap[b]? = some (.cells cs t (0, 0))) (ht : t ≠ 95) : g ≠ b := by
  obtain ⟨A, c, h1, h2, h3⟩ := h
  rintro rfl
  rw [h1] at hb
  injection hb with hb
  injection hb with _ h9
  exact ht h9.symm
theorem FRd.keep {w0 W W' : World} {g b : Nat} {bs : List Int} {tl : Int} {cs : Array Value} {t : TypeId} (h : FRd w0 W g bs tl) (hb : W.heap[b]? = some (.cells cs t (0, 0))) (ht : 5 ≠ t) (hne : g ≠ b) (hk : KeepBut W W' b none) : FRd w0 W' g bs tl := by
  obtain ⟨A, c, h1, h2, h3⟩ := h
  exact ⟨A, c, (hk.2 g (blk_lt h1) hne (by simp)).trans h1, h2, Kd.Q_mono (Kd.Q_keep (Kd.Q_types h3 hb (by simpa [Kd.int, Kd.scalar] using ht)) hk (fun _ h => h.2)) (fun _ h => h.1)⟩
theorem keep_self (w : World) (g : Nat) : KeepBut w w.drew g none := ⟨Nat.le_refl _, fun _ _ _ _ => rfl⟩
set_option maxHeartbeats 4000000 in
set_option maxRecDepth 100000 in
theorem FRd.next_none (k : Nat) (w0 w : World) (g : Nat) (bs : List Int) (f1 : Bool) (f2 f3 f4 f5 : Int) (f6 f7 f8 : ByteArray) (n e : Int) (hI : FRd w0 w g bs 0) (hB : Below w0.heap.size w0 w) (hU : frame_Unpack.f k (strOfNums bs) = some (f1, f2, f3, f4, f5, f6, f7, f8, n, e)) (he : e = 3) :
    Calls Try.prog 21 #[.pointer (some ⟨g, 0, none⟩)] w fun e_ w' => e_ = .returned (.tuple #[.agg #[.bool false, .int .u8 0, .int .u16 0, .int .u32 0, .int .u64 0, .string ⟨#[]⟩, .string ⟨#[]⟩, .string ⟨#[]⟩], .bool false, .int .i64 0]) ∧ FRd w0 w' g bs 0 ∧ Below w0.heap.size w0 w' ∧ KeptT w w' g := by
  have HI := Aside0.mk hI
  have HB := Aside0.mk hB
  have HU := Aside0.mk hU
  obtain ⟨A, c0, hb, hg, hQ⟩ := hI
  have HBK := Aside0.mk hb
  have hcv := Kd.C_string (P := Try.prog) (w := w) (A := A) (c := c0) Try.underlying46 Try.underlying5 Try.underlying9 (Kd.Q_reads' hQ).2.2
  have hC := (Kd.Q_reads' hQ).2.2
  have hcz0 : w.cell? ⟨g, 0, none⟩ = some (.slice A bs.length c0) := (blk_cell hb 0).trans rfl
  have hcz1 : w.cell? ⟨g, 1, none⟩ = some (.int .i64 0) := (blk_cell hb 1).trans rfl
  subst he
  have HC := Aside0.mk hC
  clear hC hcv hb hg hQ hB hU
  go_enter Try.func21, Try.ntmps21
  go_wp2_with (first | ((with_reducible refine gate_dst (N := 2) rfl ?_); refine bE 2 #[.bool false, .int .u8 0, .int .u16 0, .int .u32 0, .int .u64 0, .string ⟨#[]⟩, .string ⟨#[]⟩, .string ⟨#[]⟩] 31 rfl rfl ?_; intro gr hgr w1 hbox hb; have HGE := Aside0.mk (show w0.heap.size ≤ gr by rw [hgr]; exact HB.out.size); have HGE2 := Aside0.mk (show w.heap.size ≤ gr from Nat.le_of_eq hgr.symm); have BR := Aside0.mk hbox; have HB1 := Aside0.mk (below_step HB.out hb); have HI1 := Aside0.mk (HI.out.below hb); have HNE := Aside0.mk (HI1.out.blk BR.out (by decide)); have HW1 := Aside0.mk hb; have hcy0 : w1.cell? ⟨g, 0, none⟩ = some (.slice A bs.length c0) := (hb.cell (World.block_lt_of_cell? w _ hcz0)).trans hcz0; have hcy1 : w1.cell? ⟨g, 1, none⟩ = some (.int .i64 0) := (hb.cell (World.block_lt_of_cell? w _ hcz1)).trans hcz1; have hcv1 := Kd.C_string (P := Try.prog) (w := w1) (A := A) (c := c0) Try.underlying46 Try.underlying5 Try.underlying9 (Kd.C_below HC.out hb); clear hb hbox hgr hcz0 hcz1) | ((with_reducible refine gate_callee (f := 15) rfl ?_); refine goesL_ (some 24) rfl rfl Try.func15 (by kernel_rfl) rfl #[.string (strOfNums bs)] rfl (by (try simp only [List.map_toArray, List.map_cons, List.map_nil]); first | done | rfl) ?_; (with_reducible refine (frame_Unpack.calls k (strOfNums bs) f1 f2 f3 f4 f5 f6 f7 f8 n 3 _ HU.out).mono ?_); rintro e_ w2 ⟨rfl, hb⟩; refine ⟨_, rfl, ?_⟩; have BR2 := Aside0.mk (blk_below BR.out hb); have HB2 := Aside0.mk (below_step HB1.out hb); have HI2 := Aside0.mk (HI1.out.below hb); have HW2 := Aside0.mk (below_step HW1.out hb); clear hb hcv1) | ((with_reducible refine gate_dst (N := 5) rfl ?_); refine bE 5 #[.bool false, .int .u8 0, .int .u16 0, .int .u32 0, .int .u64 0, .string ⟨#[]⟩, .string ⟨#[]⟩, .string ⟨#[]⟩] 31 rfl rfl ?_; intro gf hgf w3 hbox hb; have BF := Aside0.mk hbox; have BR3 := Aside0.mk (blk_below BR2.out hb); have HB3 := Aside0.mk (below_step HB2.out hb); have HI3 := Aside0.mk (HI2.out.below hb); have HW3 := Aside0.mk (below_step HW2.out hb); have HNE3 := Aside0.mk (HI3.out.blk BR3.out (by decide)); have HNF3 := Aside0.mk (HI3.out.blk BF.out (by decide)); have HRF := Aside0.mk (show gr ≠ gf from fun he => by have := blk_lt BR2.out; omega); have HFR := Aside0.mk (show gf ≠ gr from fun he => HRF.out he.symm); have HGEF := Aside0.mk (show w0.heap.size ≤ gf by rw [hgf]; exact HB2.out.size); have HGEF2 := Aside0.mk (show w.heap.size ≤ gf by rw [hgf]; exact HW2.out.size); clear hb hbox hgf hcy0 hcy1; obtain ⟨hczr, hfzr⟩ := d8 BR3; obtain ⟨hczf, hfzf⟩ := d8 BF; have HRG := rY HNE3; have HFG := rY HNF3; have hnb1 := rP HRF HFR; have hnb2 := rP HNF3 (rY HNF3); have hnb3 := rP HNE3 (rY HNE3); skip))
  refine bodyPost_ret (results_ctt rfl _ _ gr 31 #[.bool false, .int .u8 0, .int .u16 0, .int .u32 0, .int .u64 0, .string ⟨#[]⟩, .string ⟨#[]⟩, .string ⟨#[]⟩] (0, 0) _ rfl (bV BR3.out) Try.underlying31 rfl (by kernel_rfl)) rfl ?_
  refine ⟨rfl, ?_, bH HB3.out, KeptT.of_below (bH HW3.out)⟩
  exact (HI3.out.keep (b := gf) (W' := ((((((((w3.setCell ⟨gf, 0, none⟩ (.bool f1)).setCell ⟨gf, 1, none⟩ (.int .u8 f2)).setCell ⟨gf, 2, none⟩ (.int .u16 f3)).setCell ⟨gf, 3, none⟩ (.int .u32 f4)).setCell ⟨gf, 4, none⟩ (.int .u64 f5)).setCell ⟨gf, 5, none⟩ (.string f6)).setCell ⟨gf, 6, none⟩ (.string f7)).setCell ⟨gf, 7, none⟩ (.string f8))) BF.out (by decide) HNF3.out (by with_reducible repeat (first | exact KeepBut.refl _ _ _ | refine KeepBut.set_ ?_ _ _))).keep (b := gr) (bK BR3.out) (by decide) HNE3.out (by with_reducible repeat (first | exact KeepBut.refl _ _ _ | refine KeepBut.set_ ?_ _ _))
set_option maxHeartbeats 4000000 in
set_option maxRecDepth 100000 in
theorem FRd.next_some (k : Nat) (w0 w : World) (g : Nat) (bs : List Int) (f1 : Bool) (f2 f3 f4 f5 : Int) (f6 f7 f8 : ByteArray) (n e : Int) (hI : FRd w0 w g bs 0) (hB : Below w0.heap.size w0 w) (hU : frame_Unpack.f k (strOfNums bs) = some (f1, f2, f3, f4, f5, f6, f7, f8, n, e)) (he : e = 0) (hn0 : 0 ≤ n) (hn1 : n ≤ (bs.length : Int)) :
    Calls Try.prog 21 #[.pointer (some ⟨g, 0, none⟩)] w fun e_ w' => e_ = .returned (.tuple #[.agg #[.bool f1, .int .u8 f2, .int .u16 f3, .int .u32 f4, .int .u64 f5, .string f6, .string f7, .string f8], .bool true, .int .i64 0]) ∧ FRd w0 w' g (bs.drop n.toNat) 0 ∧ Below w0.heap.size w0 w' ∧ KeptT w w' g := by
  have HI := Aside0.mk hI
  have HB := Aside0.mk hB
  have HU := Aside0.mk hU
  obtain ⟨A, c0, hb, hg, hQ⟩ := hI
  have HBK := Aside0.mk hb
  have hcv := Kd.C_string (P := Try.prog) (w := w) (A := A) (c := c0) Try.underlying46 Try.underlying5 Try.underlying9 (Kd.Q_reads' hQ).2.2
  have hC := (Kd.Q_reads' hQ).2.2
  have hcz0 : w.cell? ⟨g, 0, none⟩ = some (.slice A bs.length c0) := (blk_cell hb 0).trans rfl
  have hcz1 : w.cell? ⟨g, 1, none⟩ = some (.int .i64 0) := (blk_cell hb 1).trans rfl
  subst he
  obtain ⟨m, rfl⟩ : ∃ m : Nat, n = (m : Int) := ⟨n.toNat, by omega⟩
  have hm : m ≤ bs.length := by omega
  have HC := Aside0.mk hC
  clear hC hcv hb hg hQ hB hU hn0 hn1
  go_enter Try.func21, Try.ntmps21
  go_wp2_with (first | ((with_reducible refine gate_dst (N := 2) rfl ?_); refine bE 2 #[.bool false, .int .u8 0, .int .u16 0, .int .u32 0, .int .u64 0, .string ⟨#[]⟩, .string ⟨#[]⟩, .string ⟨#[]⟩] 31 rfl rfl ?_; intro gr hgr w1 hbox hb; have HGE := Aside0.mk (show w0.heap.size ≤ gr by rw [hgr]; exact HB.out.size); have HGE2 := Aside0.mk (show w.heap.size ≤ gr from Nat.le_of_eq hgr.symm); have BR := Aside0.mk hbox; have HB1 := Aside0.mk (below_step HB.out hb); have HI1 := Aside0.mk (HI.out.below hb); have HNE := Aside0.mk (HI1.out.blk BR.out (by decide)); have HW1 := Aside0.mk hb; have hcy0 : w1.cell? ⟨g, 0, none⟩ = some (.slice A bs.length c0) := (hb.cell (World.block_lt_of_cell? w _ hcz0)).trans hcz0; have hcy1 : w1.cell? ⟨g, 1, none⟩ = some (.int .i64 0) := (hb.cell (World.block_lt_of_cell? w _ hcz1)).trans hcz1; have hcv1 := Kd.C_string (P := Try.prog) (w := w1) (A := A) (c := c0) Try.underlying46 Try.underlying5 Try.underlying9 (Kd.C_below HC.out hb); clear hb hbox hgr hcz0 hcz1) | ((with_reducible refine gate_callee (f := 15) rfl ?_); refine goesL_ (some 24) rfl rfl Try.func15 (by kernel_rfl) rfl #[.string (strOfNums bs)] rfl (by (try simp only [List.map_toArray, List.map_cons, List.map_nil]); first | done | rfl) ?_; (with_reducible refine (frame_Unpack.calls k (strOfNums bs) f1 f2 f3 f4 f5 f6 f7 f8 (m : Int) 0 _ HU.out).mono ?_); rintro e_ w2 ⟨rfl, hb⟩; refine ⟨_, rfl, ?_⟩; have BR2 := Aside0.mk (blk_below BR.out hb); have HB2 := Aside0.mk (below_step HB1.out hb); have HI2 := Aside0.mk (HI1.out.below hb); have HW2 := Aside0.mk (below_step HW1.out hb); clear hb hcv1) | ((with_reducible refine gate_dst (N := 5) rfl ?_); refine bE 5 #[.bool false, .int .u8 0, .int .u16 0, .int .u32 0, .int .u64 0, .string ⟨#[]⟩, .string ⟨#[]⟩, .string ⟨#[]⟩] 31 rfl rfl ?_; intro gf hgf w3 hbox hb; have BF := Aside0.mk hbox; have BR3 := Aside0.mk (blk_below BR2.out hb); have HB3 := Aside0.mk (below_step HB2.out hb); have HI3 := Aside0.mk (HI2.out.below hb); have HW3 := Aside0.mk (below_step HW2.out hb); have HNE3 := Aside0.mk (HI3.out.blk BR3.out (by decide)); have HNF3 := Aside0.mk (HI3.out.blk BF.out (by decide)); have HRF := Aside0.mk (show gr ≠ gf from fun he => by have := blk_lt BR2.out; omega); have HFR := Aside0.mk (show gf ≠ gr from fun he => HRF.out he.symm); have HGEF := Aside0.mk (show w0.heap.size ≤ gf by rw [hgf]; exact HB2.out.size); have HGEF2 := Aside0.mk (show w.heap.size ≤ gf by rw [hgf]; exact HW2.out.size); clear hb hbox hgf hcy0 hcy1; obtain ⟨hczr, hfzr⟩ := d8 BR3; obtain ⟨hczf, hfzf⟩ := d8 BF; have HRG := rY HNE3; have HFG := rY HNF3; have hnb1 := rP HRF HFR; have hnb2 := rP HNF3 (rY HNF3); have hnb3 := rP HNE3 (rY HNE3); obtain ⟨A3, c3, hb3, hg3, hQ3⟩ := HI3.out; have HGG := Aside0.mk hg3; have HBK3 := Aside0.mk hb3; have HQ3 := Aside0.mk hQ3; have hcx0 : w3.cell? ⟨g, 0, none⟩ = some (.slice A3 bs.length c3) := (blk_cell hb3 0).trans rfl; have hcx1 : w3.cell? ⟨g, 1, none⟩ = some (.int .i64 0) := (blk_cell hb3 1).trans rfl; have hfx0 : w3.frozen? ⟨g, 0, none⟩ = false := blk_frozen hb3 0; have hfx1 : w3.frozen? ⟨g, 1, none⟩ = false := blk_frozen hb3 1; clear hb3 hg3 hQ3; obtain ⟨A4, hcut, hcutQ⟩ := fr_cut A3 bs.length c3 m hm; have HQ4 := Aside0.mk (hcutQ _ _ _ _ rfl HQ3.out); clear hcutQ))
  refine bodyPost_ret (results_ctt rfl _ _ gr 31 #[.bool f1, .int .u8 f2, .int .u16 f3, .int .u32 f4, .int .u64 f5, .string f6, .string f7, .string f8] (0, 0) _ rfl (bV BR3.out) Try.underlying31 rfl (by kernel_rfl)) rfl ?_
  have hl : (bs.drop ((m : Int)).toNat).length = bs.length - m := by rw [List.length_drop]; rfl
  refine ⟨rfl, ⟨A4, c3 - m, ?_, HGG.out, ?_⟩, bH HB3.out, ?_⟩
  · rw [hl]
    exact bV HBK3.out
  · rw [hl]
    have h1 := Kd.Q_types (Kd.Q_types HQ4.out BF.out (by simp [Kd.int, Kd.scalar])) BR3.out (by simp [Kd.int, Kd.scalar])
    refine Kd.Q_mono (ok := fun k => (k ≠ g ∧ k ≠ gf) ∧ k ≠ gr) ?_ (fun _ h => h.1.1)
    repeat (first | (with_reducible refine Kd.Q_far (p := ⟨gr, _, none⟩) ?_ (fun _ h => h.2) _) | (with_reducible refine Kd.Q_far (p := ⟨gf, _, none⟩) ?_ (fun _ h => h.1.2) _) | (with_reducible refine Kd.Q_far (p := ⟨g, _, none⟩) ?_ (fun _ h => h.1.1) _))
    exact h1
  refine ⟨Nat.le_trans HW3.out.size (by simp), fun b cs t hb ht hg => ?_⟩
  have hbl := blk_lt hb
  have h3 := blk_below hb HW3.out
  have n1 : b ≠ gr := fun e => by have := HGE2.out; omega
  have n2 : b ≠ gf := fun e => by have := HGEF2.out; omega
  with_reducible repeat (first | exact h3 | refine blk_far (p := ⟨gr, _, none⟩) ?_ n1 _ | refine blk_far (p := ⟨gf, _, none⟩) ?_ n2 _ | refine blk_far (p := ⟨g, _, none⟩) ?_ hg _)
end Go.Proofs.Ytdepkgikdmlgiaa.P
