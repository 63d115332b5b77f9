/- The document's reader (tallboyref29.Reader): what Next does. Conditions: the readings that each theorem names. -/
import Derived.Test.YtdepkgikdmlgiaaFr3
namespace Go.Proofs.Ytdepkgikdmlgiaa.P
open Go.RowKit Go.Proofs.YtdepkgikdmlgiaaW.PrintWords Go.Proofs.YtdepkgikdmlgiaaW.PrintLast Go.Proofs.YtdepkgikdmlgiaaW.PrintMore
set_option linter.unusedVariables false
set_option linter.unusedSimpArgs false
theorem RRd.blk {W : World} {g : Nat} {bs : List Int} {tl : Int} (h : RRd W g bs tl) {b : Nat} {cs : Array Value} {t : TypeId} (hb : W.heap[b]? = some (.cells cs t (0, 0))) (ht : t ≠ 45) : g ≠ b := by
  rintro rfl
  unfold RRd at h
  rw [h] at hb
  injection hb with hb
  injection hb with _ h9
  exact ht h9.symm
theorem RRd.below {W W1 : World} {g : Nat} {bs : List Int} {tl : Int} (h : RRd W g bs tl) (hb : Below W.heap.size W W1) : RRd W1 g bs tl := blk_below h hb
theorem keep_far {w W : World} {g b j : Nat} {u : Value} (h : KeepBut w W g none) (hb : w.heap.size ≤ b) : KeepBut w (W.setCell ⟨b, j, none⟩ u) g none :=
  ⟨Nat.le_trans h.1 (by simp), fun i hi hg hn => (Below.heap_setCell W ⟨b, j, none⟩ u i (show i ≠ b by omega)).trans (h.2 i hi hg hn)⟩

theorem RRd.feed (w0 w : World) (g : Nat) (bs : List Int) (tl : Int) (B : Option Addr) (c : Nat) (b : List Int) (hI : RRd w g bs tl) (hB : Below w0.heap.size w0 w) (hg : w0.heap.size ≤ g) (hC : kB.C w B b.length b) (hn : bs.length ≤ 2097152) (hn2 : b.length ≤ 2097152) :
    Calls Try.prog 20 #[.pointer (some ⟨g, 0, none⟩), .slice B b.length c] w fun e w' => e = .returned (.int .i64 (feedE bs tl b.length)) ∧ RRd w' g (feedB bs tl b) tl ∧ Below w0.heap.size w0 w' ∧ KeepBut w w' g none := by
  unfold feedE feedB
  by_cases ht : tl = 0
  · rw [if_pos ht, if_pos ht]
    by_cases hm : (b.length : Int) > 2097152 - (bs.length : Int)
    · rw [if_pos hm, if_pos hm]
      exact RRd.feed_full w0 w g bs tl B c b hI hB hg hC hn hn2 ht hm
    · rw [if_neg hm, if_neg hm]
      exact RRd.feed_ok w0 w g bs tl B c b hI hB hg hC hn hn2 ht hm
  · rw [if_neg ht, if_neg ht]
    exact RRd.feed_told w0 w g bs tl B c b hI hB hg hC hn hn2 ht
set_option maxHeartbeats 4000000 in
set_option maxRecDepth 100000 in
theorem RRd.next_none (k : Nat) (w0 w : World) (g : Nat) (bs : List Int) (f1 : Bool) (f2 f3 f4 f5 : Int) (f6 f7 f8 : ByteArray) (n e : Int) (hI : RRd w g bs 0) (hB : Below w0.heap.size w0 w) (hg : w0.heap.size ≤ g) (hU : tallboyref29_Unpack.f k (strOfNums bs) = some (f1, f2, f3, f4, f5, f6, f7, f8, n, e)) (he : e = 3) :
    Calls Try.prog 22 #[.pointer (some ⟨g, 0, none⟩)] w fun e_ w' => e_ = .returned (.tuple #[.agg #[.bool false, .int .u8 0, .int .u16 0, .int .u32 0, .int .u64 0, .string ⟨#[]⟩, .string ⟨#[]⟩, .string ⟨#[]⟩], .bool false, .int .i64 0]) ∧ RRd w' g bs 0 ∧ Below w0.heap.size w0 w' ∧ KeepBut w w' g none := by
  have HI := Aside0.mk hI
  have HB := Aside0.mk hB
  have HU := Aside0.mk hU
  have HGG := Aside0.mk hg
  have hcz0 : w.cell? ⟨g, 0, none⟩ = some (.string (strOfNums bs)) := (blk_cell hI 0).trans rfl
  have hcz1 : w.cell? ⟨g, 1, none⟩ = some (.int .i64 0) := (blk_cell hI 1).trans rfl
  subst he
  clear hI hg hB hU
  go_enter Try.func22, Try.ntmps22
  go_wp2_with (first | ((with_reducible refine gate_dst (N := 2) rfl ?_); refine bE 2 #[.bool false, .int .u8 0, .int .u16 0, .int .u32 0, .int .u64 0, .string ⟨#[]⟩, .string ⟨#[]⟩, .string ⟨#[]⟩] 26 rfl rfl ?_; intro gr hgr w1 hbox hb; have HGE := Aside0.mk (show w0.heap.size ≤ gr by rw [hgr]; exact HB.out.size); have HGE2 := Aside0.mk (show w.heap.size ≤ gr from Nat.le_of_eq hgr.symm); have BR := Aside0.mk hbox; have HB1 := Aside0.mk (below_step HB.out hb); have HI1 := Aside0.mk (HI.out.below hb); have HNE := Aside0.mk (HI1.out.blk BR.out (by decide)); have HW1 := Aside0.mk hb; have hcy0 : w1.cell? ⟨g, 0, none⟩ = some (.string (strOfNums bs)) := (hb.cell (World.block_lt_of_cell? w _ hcz0)).trans hcz0; have hcy1 : w1.cell? ⟨g, 1, none⟩ = some (.int .i64 0) := (hb.cell (World.block_lt_of_cell? w _ hcz1)).trans hcz1; clear hb hbox hgr hcz0 hcz1) | ((with_reducible refine gate_callee (f := 16) rfl ?_); refine goesL_ (some 23) rfl rfl Try.func16 (by kernel_rfl) rfl #[.string (strOfNums bs)] rfl (by (try simp only [List.map_toArray, List.map_cons, List.map_nil]); first | done | rfl) ?_; (with_reducible refine (tallboyref29_Unpack.calls k (strOfNums bs) f1 f2 f3 f4 f5 f6 f7 f8 n 3 _ HU.out).mono ?_); rintro e_ w2 ⟨rfl, hb⟩; refine ⟨_, rfl, ?_⟩; have BR2 := Aside0.mk (blk_below BR.out hb); have HB2 := Aside0.mk (below_step HB1.out hb); have HI2 := Aside0.mk (HI1.out.below hb); have HW2 := Aside0.mk (below_step HW1.out hb); clear hb) | ((with_reducible refine gate_dst (N := 5) rfl ?_); refine bE 5 #[.bool false, .int .u8 0, .int .u16 0, .int .u32 0, .int .u64 0, .string ⟨#[]⟩, .string ⟨#[]⟩, .string ⟨#[]⟩] 26 rfl rfl ?_; intro gf hgf w3 hbox hb; have BF := Aside0.mk hbox; have BR3 := Aside0.mk (blk_below BR2.out hb); have HB3 := Aside0.mk (below_step HB2.out hb); have HI3 := Aside0.mk (HI2.out.below hb); have HW3 := Aside0.mk (below_step HW2.out hb); have HNE3 := Aside0.mk (HI3.out.blk BR3.out (by decide)); have HNF3 := Aside0.mk (HI3.out.blk BF.out (by decide)); have HRF := Aside0.mk (show gr ≠ gf from fun he => by have := blk_lt BR2.out; omega); have HFR := Aside0.mk (show gf ≠ gr from fun he => HRF.out he.symm); have HGEF := Aside0.mk (show w0.heap.size ≤ gf by rw [hgf]; exact HB2.out.size); have HGEF2 := Aside0.mk (show w.heap.size ≤ gf by rw [hgf]; exact HW2.out.size); clear hb hbox hgf hcy0 hcy1; obtain ⟨hczr, hfzr⟩ := d8 BR3; obtain ⟨hczf, hfzf⟩ := d8 BF; have HRG := rY HNE3; have HFG := rY HNF3; have hnb1 := rP HRF HFR; have hnb2 := rP HNF3 (rY HNF3); have hnb3 := rP HNE3 (rY HNE3); skip))
  refine bodyPost_ret (results_ctt rfl _ _ gr 26 #[.bool false, .int .u8 0, .int .u16 0, .int .u32 0, .int .u64 0, .string ⟨#[]⟩, .string ⟨#[]⟩, .string ⟨#[]⟩] (0, 0) _ rfl (bV BR3.out) Try.underlying26 rfl (by kernel_rfl)) rfl ?_
  exact ⟨rfl, bV (w := w3) HI3.out, bH HB3.out, (by with_reducible repeat (first | exact KeepBut.of_below HW3.out _ _ | refine keep_far (b := gr) ?_ HGE2.out | refine keep_far (b := gf) ?_ HGEF2.out | refine KeepBut.set_ ?_ _ _))⟩
set_option maxHeartbeats 4000000 in
set_option maxRecDepth 100000 in
theorem RRd.next_some (k : Nat) (w0 w : World) (g : Nat) (bs : List Int) (f1 : Bool) (f2 f3 f4 f5 : Int) (f6 f7 f8 : ByteArray) (n e : Int) (hI : RRd w g bs 0) (hB : Below w0.heap.size w0 w) (hg : w0.heap.size ≤ g) (hU : tallboyref29_Unpack.f k (strOfNums bs) = some (f1, f2, f3, f4, f5, f6, f7, f8, n, e)) (he : e = 0) (hn0 : 0 ≤ n) (hn1 : n ≤ (bs.length : Int)) :
    Calls Try.prog 22 #[.pointer (some ⟨g, 0, none⟩)] w fun e_ w' => e_ = .returned (.tuple #[.agg #[.bool f1, .int .u8 f2, .int .u16 f3, .int .u32 f4, .int .u64 f5, .string f6, .string f7, .string f8], .bool true, .int .i64 0]) ∧ RRd w' g (bs.drop n.toNat) 0 ∧ Below w0.heap.size w0 w' ∧ KeepBut w w' g none := by
  have HI := Aside0.mk hI
  have HB := Aside0.mk hB
  have HU := Aside0.mk hU
  have HGG := Aside0.mk hg
  have hcz0 : w.cell? ⟨g, 0, none⟩ = some (.string (strOfNums bs)) := (blk_cell hI 0).trans rfl
  have hcz1 : w.cell? ⟨g, 1, none⟩ = some (.int .i64 0) := (blk_cell hI 1).trans rfl
  subst he
  obtain ⟨m, rfl⟩ : ∃ m : Nat, n = (m : Int) := ⟨n.toNat, by omega⟩
  have hm : m ≤ bs.length := by omega
  have hsz := nums_size bs
  have hm1 : ((m : Int) ≤ (bs.length : Int)) = True := eq_true (by omega)
  have hm2 : (m ≤ bs.length) = True := eq_true hm
  have hm3 : (0 ≤ (m : Int)) = True := eq_true (by omega)
  clear hI hg hB hU hn0 hn1
  go_enter Try.func22, Try.ntmps22
  go_wp2_with (first | ((with_reducible refine gate_dst (N := 2) rfl ?_); refine bE 2 #[.bool false, .int .u8 0, .int .u16 0, .int .u32 0, .int .u64 0, .string ⟨#[]⟩, .string ⟨#[]⟩, .string ⟨#[]⟩] 26 rfl rfl ?_; intro gr hgr w1 hbox hb; have HGE := Aside0.mk (show w0.heap.size ≤ gr by rw [hgr]; exact HB.out.size); have HGE2 := Aside0.mk (show w.heap.size ≤ gr from Nat.le_of_eq hgr.symm); have BR := Aside0.mk hbox; have HB1 := Aside0.mk (below_step HB.out hb); have HI1 := Aside0.mk (HI.out.below hb); have HNE := Aside0.mk (HI1.out.blk BR.out (by decide)); have HW1 := Aside0.mk hb; have hcy0 : w1.cell? ⟨g, 0, none⟩ = some (.string (strOfNums bs)) := (hb.cell (World.block_lt_of_cell? w _ hcz0)).trans hcz0; have hcy1 : w1.cell? ⟨g, 1, none⟩ = some (.int .i64 0) := (hb.cell (World.block_lt_of_cell? w _ hcz1)).trans hcz1; clear hb hbox hgr hcz0 hcz1) | ((with_reducible refine gate_callee (f := 16) rfl ?_); refine goesL_ (some 23) rfl rfl Try.func16 (by kernel_rfl) rfl #[.string (strOfNums bs)] rfl (by (try simp only [List.map_toArray, List.map_cons, List.map_nil]); first | done | rfl) ?_; (with_reducible refine (tallboyref29_Unpack.calls k (strOfNums bs) f1 f2 f3 f4 f5 f6 f7 f8 (m : Int) 0 _ HU.out).mono ?_); rintro e_ w2 ⟨rfl, hb⟩; refine ⟨_, rfl, ?_⟩; have BR2 := Aside0.mk (blk_below BR.out hb); have HB2 := Aside0.mk (below_step HB1.out hb); have HI2 := Aside0.mk (HI1.out.below hb); have HW2 := Aside0.mk (below_step HW1.out hb); clear hb) | ((with_reducible refine gate_dst (N := 5) rfl ?_); refine bE 5 #[.bool false, .int .u8 0, .int .u16 0, .int .u32 0, .int .u64 0, .string ⟨#[]⟩, .string ⟨#[]⟩, .string ⟨#[]⟩] 26 rfl rfl ?_; intro gf hgf w3 hbox hb; have BF := Aside0.mk hbox; have BR3 := Aside0.mk (blk_below BR2.out hb); have HB3 := Aside0.mk (below_step HB2.out hb); have HI3 := Aside0.mk (HI2.out.below hb); have HW3 := Aside0.mk (below_step HW2.out hb); have HNE3 := Aside0.mk (HI3.out.blk BR3.out (by decide)); have HNF3 := Aside0.mk (HI3.out.blk BF.out (by decide)); have HRF := Aside0.mk (show gr ≠ gf from fun he => by have := blk_lt BR2.out; omega); have HFR := Aside0.mk (show gf ≠ gr from fun he => HRF.out he.symm); have HGEF := Aside0.mk (show w0.heap.size ≤ gf by rw [hgf]; exact HB2.out.size); have HGEF2 := Aside0.mk (show w.heap.size ≤ gf by rw [hgf]; exact HW2.out.size); clear hb hbox hgf hcy0 hcy1; obtain ⟨hczr, hfzr⟩ := d8 BR3; obtain ⟨hczf, hfzf⟩ := d8 BF; have HRG := rY HNE3; have HFG := rY HNF3; have hnb1 := rP HRF HFR; have hnb2 := rP HNF3 (rY HNF3); have hnb3 := rP HNE3 (rY HNE3); have hcx0 : w3.cell? ⟨g, 0, none⟩ = some (.string (strOfNums bs)) := (blk_cell HI3.out 0).trans rfl; have hcx1 : w3.cell? ⟨g, 1, none⟩ = some (.int .i64 0) := (blk_cell HI3.out 1).trans rfl; have hfx0 : w3.frozen? ⟨g, 0, none⟩ = false := blk_frozen HI3.out 0; have hfx1 : w3.frozen? ⟨g, 1, none⟩ = false := blk_frozen HI3.out 1))
  refine bodyPost_ret (results_ctt rfl _ _ gr 26 #[.bool f1, .int .u8 f2, .int .u16 f3, .int .u32 f4, .int .u64 f5, .string f6, .string f7, .string f8] (0, 0) _ rfl (bV BR3.out) Try.underlying26 rfl (by kernel_rfl)) rfl ?_
  refine ⟨rfl, ?_, bH HB3.out, (by with_reducible repeat (first | exact KeepBut.of_below HW3.out _ _ | refine keep_far (b := gr) ?_ HGE2.out | refine keep_far (b := gf) ?_ HGEF2.out | refine KeepBut.set_ ?_ _ _))⟩
  show _ = some (Obj.cells #[.string (strOfNums (bs.drop m)), .int .i64 0] 45 (0, 0))
  rw [← nums_drop, nums_size]
  exact bV (w := w3) HI3.out
end Go.Proofs.Ytdepkgikdmlgiaa.P
