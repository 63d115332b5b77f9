/- A connection's value: a command with its bytes, if they are there. Conditions: the readings that each theorem names. -/
import Derived.Test.YtginfaencjmhgaaDoorCn2
namespace Go.Proofs.YtginfaencjmhgaaDoor.P
open Go.RowKit Go.Proofs.YtginfaencjmhgaaDoorW.PrintWords Go.Proofs.YtginfaencjmhgaaDoorW.PrintLast Go.Proofs.YtginfaencjmhgaaDoorW.PrintMore Go.Proofs.YtginfaencjmhgaaDoor.Pl
set_option linter.unusedVariables false
set_option linter.unusedSimpArgs false
theorem KeptC.new {W W1 W2 : World} {own : Nat → Prop} {g : Nat} (h : KeptC W W1 own) (hk : KeepBut W1 W2 g none) (hg : W.heap.size ≤ g) : KeptC W W2 own :=
  ⟨Nat.le_trans h.1 hk.1, fun b hb hn => (hk.2 b (by have := h.1; omega) (by omega) (by simp)).trans (h.2.1 b hb hn), fun b cs t hc h1 h2 h3 => (hk.2 b (by have := blk_lt hc; have := h.1; omega) (by have := blk_lt hc; omega) (by simp)).trans (h.2.2 b cs t hc h1 h2 h3)⟩
theorem KeptC.sub {W W' : World} {own own' : Nat → Prop} (h : KeptC W W' own) (ho : ∀ k, own k → own' k) : KeptC W W' own' := ⟨h.1, fun k hk hn => h.2.1 k hk (fun e => hn (ho k e)), h.2.2⟩
theorem CRd.widen {base : Nat} {W : World} {own own' : Nat → Prop} {g : Nat} {s : CS} (h : CRd base W own g s) (ho : ∀ k, own k → own' k) (hl : ∀ k, own' k → k < W.heap.size) : CRd base W own' g s := by
  obtain ⟨A, c, wp, h1, h2, h3, h4, h5, h6⟩ := h
  exact ⟨A, c, wp, h1, h2, ho g h3, Kd.Q_mono h4 ho, hl, h6.move (fun k cs _ hc => hc) (KeptC.refl W own) ho⟩
theorem CRd.owns {base : Nat} {W : World} {own : Nat → Prop} {g : Nat} {s : CS} (h : CRd base W own g s) : own g ∧ ∀ k, own k → k < W.heap.size := by
  obtain ⟨A, c, wp, h1, h2, h3, h4, h5, h6⟩ := h
  exact ⟨h3, h5⟩
/-- What waits is let go. -/
theorem CRd.drop {base : Nat} {W : World} {own : Nat → Prop} {g h : Nat} {b : List Int} {sw : Int} {rs : Bool} {wt : Option PT} {cs : Array Value} (hI : CRd base W own g ⟨b, sw, rs, wt⟩) (hh : W.heap[h]? = some (.cells cs 57 (0, 0))) : CRd base (W.setCell ⟨g, 3, none⟩ (.pointer none)) (fun k => own k ∧ k ≠ h) g ⟨b, sw, rs, none⟩ := by
  obtain ⟨A, c, wp, h1, h2, h3, h4, h5, h6⟩ := hI
  exact ⟨A, c, none, blk_put h1 3 _ rfl, h2, ⟨h3, blk_ne h1 hh (by decide)⟩, Kd.Q_set (Kd.Q_types h4 hh (by simp [Kd.int, Kd.scalar])) h1 (by decide) 3 _, fun k hk => by simpa using h5 k hk.1, rfl⟩
/-- .. and something waits. -/
theorem CRd.wait {base : Nat} {W : World} {own : Nat → Prop} {g h : Nat} {b : List Int} {sw : Int} {rs : Bool} {kv : Value} {p : PT} (hI : CRd base W own g ⟨b, sw, rs, none⟩) (hh : W.heap[h]? = some (.cells (pCells p kv) 57 (0, 0))) (hb : base ≤ h) (hk : Kd.R Kd.string 9 W base (fun _ => True) kv p.2.2.1) : CRd base (W.setCell ⟨g, 3, none⟩ (.pointer (some ⟨h, 0, none⟩))) (fun k => own k ∨ k = h) g ⟨b, sw, rs, some p⟩ := by
  obtain ⟨A, c, wp, h1, h2, h3, h4, h5, h6⟩ := hI
  have ks := (KeptC.refl W own).to ((KeepBut.refl W g none).set_ 3 (.pointer (some ⟨h, 0, none⟩))) (.inl h3) (.inr h1) (.inr (.inl rfl))
  refine ⟨A, c, _, blk_put h1 3 _ rfl, h2, .inl h3, Kd.Q_set (Kd.Q_mono h4 (fun _ h => .inl h)) h1 (by decide) 3 _, fun k hk => ?_, h, kv, rfl, hb, .inr rfl, blk_far hh (p := ⟨g, 3, none⟩) (blk_ne hh h1 (by decide)) _, keys_kept hk ks⟩
  rcases hk with hk | rfl
  · simpa using h5 k hk
  · simpa using blk_lt hh
theorem CRd.take2 (w0 w : World) (own : Nat → Prop) (g : Nat) (s : CS) (hI : CRd w0.heap.size w own g s) (hB : Below w0.heap.size w0 w) (hn : 2 ≤ s.b.length) (hs : s.b.length ≤ 65536) :
    Calls Tryd.prog 21 #[.pointer (some ⟨g, 0, none⟩), .int .i64 2] w fun e w' => e = .returned (.string (strOfNums (s.b.take 2))) ∧ CRd w0.heap.size w' own g ⟨s.b.drop 2, s.sw, s.rs, s.wt⟩ ∧ KeptC w w' own ∧ Below w0.heap.size w0 w' := CRd.take w0 w own g s 2 hI hB hn hs
def askC (a : AT) (kv : Value) : Array Value := #[.int .i64 a.1, .int .i64 a.2.1, kv, .int .u32 a.2.2.2.1, .int .i64 a.2.2.2.2.1, .string a.2.2.2.2.2.1, .int .u64 a.2.2.2.2.2.2.1, .int .u64 a.2.2.2.2.2.2.2.1, .bool a.2.2.2.2.2.2.2.2]
set_option maxHeartbeats 8000000 in
set_option maxRecDepth 100000 in
theorem CRd.value (w0 w : World) (own : Nat → Prop) (g : Nat) (b : List Int) (sw : Int) (rs : Bool) (wt : Option PT) (p : PT) (hI : CRd w0.heap.size w own g ⟨b, sw, rs, wt⟩) (hwt : wt = some p) (hB : Below w0.heap.size w0 w) (hp : 0 ≤ byP p ∧ byP p ≤ 2000) (hs : b.length ≤ 65536) :
    Calls Tryd.prog 24 #[.pointer (some ⟨g, 0, none⟩)] w fun e w' => ∃ kv', e = .returned (.tuple #[.agg (askC (valueV ⟨b, sw, rs, wt⟩ p).2.1 kv'), .bool (valueV ⟨b, sw, rs, wt⟩ p).2.2]) ∧ CRd w0.heap.size w' own g (valueV ⟨b, sw, rs, wt⟩ p).1 ∧ Kd.R Kd.string 9 w' w0.heap.size (fun _ => True) kv' (valueV ⟨b, sw, rs, wt⟩ p).2.1.2.2.1 ∧ KeptC w w' own ∧ Below w0.heap.size w0 w' := by
  obtain ⟨v, kd, keys, fl, ex, vl, cas, del, q, by_, swl⟩ := p
  have hp0 : 0 ≤ by_ := hp.1
  have hp1 : by_ ≤ 2000 := hp.2
  clear hp
  obtain ⟨n, rfl⟩ : ∃ n : Nat, by_ = (n : Int) := ⟨by_.toNat, by omega⟩
  subst hwt
  have HI := Aside0.mk hI
  have HI0 := Aside0.mk hI
  have HB := Aside0.mk hB
  obtain ⟨h, kv, hwp, hbh, hoh, hh, hkeys⟩ : ∃ h kv, w.cell? ⟨g, 3, none⟩ = some (.pointer (some ⟨h, 0, none⟩)) ∧ w0.heap.size ≤ h ∧ own h ∧ w.heap[h]? = some (.cells #[.int .i64 v, .int .i64 kd, kv, .int .u32 fl, .int .i64 ex, .string vl, .int .u64 cas, .int .u64 del, .bool q, .int .i64 (n : Int), .int .i64 swl] 57 (0, 0)) ∧ Kd.R Kd.string 9 w w0.heap.size (fun _ => True) kv keys := by
    obtain ⟨A, c, wp, h1, h2, h3, h4, h5, h, kv, rfl, h7, h8, h9, h10⟩ := hI
    exact ⟨h, kv, (blk_cell h1 3).trans rfl, h7, h8, h9, h10⟩
  obtain ⟨Ak, ck, rfl⟩ := Kd.R_slice hkeys
  have HH := Aside0.mk hh
  have HBH := Aside0.mk hbh
  have HOH := Aside0.mk hoh
  have HKY := Aside0.mk hkeys
  clear hI hB hbh hoh hh hkeys
  obtain ⟨A, c0, wp_, hb, hg, ho, hQ, hl, hW⟩ := HI.out; have HBK := Aside0.mk hb; obtain ⟨⟨hcz0, hcz1, hcz2, hcz3⟩, hfz0, hfz1, hfz2, hfz3⟩ := d4 HBK; clear hb hg ho hQ hl hW
  clear hcz3
  have hcz3 := hwp
  clear hwp
  have hw2 : wrap64 ((n : Int) + 2) = (n : Int) + 2 := by unfold wrap64; omega
  dsimp only at *
  by_cases hl : (b.length : Int) < (n : Int) + 2
  · have hd : decide ((b.length : Int) < (n : Int) + 2) = true := decide_eq_true hl
    have hV : valueV ⟨b, sw, rs, some (v, kd, keys, fl, ex, vl, cas, del, q, (n : Int), swl)⟩ (v, kd, keys, fl, ex, vl, cas, del, q, (n : Int), swl) = (⟨b, sw, rs, some (v, kd, keys, fl, ex, vl, cas, del, q, (n : Int), swl)⟩, zA 0, false) := value_no _ _ hl
    rw [hV]
    clear hl hV
    go_enter Tryd.func24, Tryd.ntmps24
    go_wp2_with (first | ((with_reducible refine gate_dst (N := 2) rfl ?_); (refine bE 2 #[.int .i64 0, .int .i64 0, .slice none 0 0, .int .u32 0, .int .i64 0, .string ⟨#[]⟩, .int .u64 0, .int .u64 0, .bool false] 39 rfl rfl ?_; intro gr hgr w1 hbox hb; have BR := Aside0.mk hbox; have HGR := Aside0.mk (show w0.heap.size ≤ gr by rw [hgr]; exact HB.out.size); have HGR2 := Aside0.mk (show w.heap.size ≤ gr from Nat.le_of_eq hgr.symm); have HK := Aside0.mk (KeptC.of_below own hb); replace HI := Aside0.mk (HI.out.below hb); replace HB := Aside0.mk (below_step HB.out hb); replace HH := Aside0.mk (blk_below HH.out hb); have hz3 := (hb.cell (World.block_lt_of_cell? w _ hcz3)).trans hcz3; replace HKY := Aside0.mk (Kd.R_below HKY.out hb); clear HBK hcz0 hcz1 hcz2 hcz3 hfz0 hfz1 hfz2 hfz3 hbox hb hgr; obtain ⟨A, c0, wp_, hb, hg, ho, hQ, hl, hW⟩ := HI.out; have HBK := Aside0.mk hb; obtain ⟨⟨hcz0, hcz1, hcz2, hcz3⟩, hfz0, hfz1, hfz2, hfz3⟩ := d4 HBK; clear hb hg ho hQ hl hW; clear hcz3; have hcz3 := hz3; clear hz3; dsimp only at hcz0; obtain ⟨hch, hfh⟩ := d11 HH)))
    go_quiet (fail)
    have hbq : Below w1.heap.size w1 (w1.drewN nq) := pw_below_drewN (Below.refl _ _) nq
    replace HI := Aside0.mk (HI.out.below hbq)
    replace HB := Aside0.mk (below_step HB.out hbq)
    replace HK := Aside0.mk (HK.out.then_ (KeptC.of_below own hbq) (fun _ h => .inl h))
    replace HH := Aside0.mk (blk_below HH.out hbq)
    replace BR := Aside0.mk (blk_below BR.out hbq)
    replace HKY := Aside0.mk (Kd.R_below HKY.out hbq)
    have hz3 := (hbq.cell (World.block_lt_of_cell? w1 _ hcz3)).trans hcz3
    clear hbq HBK hcz0 hcz1 hcz2 hcz3 hfz0 hfz1 hfz2 hfz3 hch hfh
    generalize w1.drewN nq = w2 at HI HB HK HH BR HKY hz3 ⊢
    obtain ⟨A, c0, wp_, hb, hg, ho, hQ, hl, hW⟩ := HI.out; have HBK := Aside0.mk hb; obtain ⟨⟨hcz0, hcz1, hcz2, hcz3⟩, hfz0, hfz1, hfz2, hfz3⟩ := d4 HBK; clear hb hg ho hQ hl hW
    clear hcz3
    have hcz3 := hz3
    clear hz3
    dsimp only at hcz0
    have HHG := Aside0.mk (blk_ne HH.out HBK.out (by decide))
    have HRG := Aside0.mk (blk_ne BR.out HBK.out (by decide))
    have HRH := Aside0.mk (blk_ne BR.out HH.out (by decide))
    obtain ⟨hch, hfh⟩ := d11 HH
    obtain ⟨hcr, hfr⟩ := d9 BR
    go_wp2
    refine bodyPost_ret (results_ct rfl _ _ gr 39 #[.int .i64 0, .int .i64 0, .slice none 0 0, .int .u32 0, .int .i64 0, .string ⟨#[]⟩, .int .u64 0, .int .u64 0, .bool false] (0, 0) _ rfl (bV BR.out) Tryd.underlying39 rfl (by kernel_rfl)) rfl ?_
    exact ⟨_, rfl, HI.out.far (b := gr) BR.out (by decide) (by with_reducible repeat (first | exact KeepBut.refl _ _ _ | refine KeepBut.set_ ?_ _ _)), Kd.R_nil _ _ _ _ _, HK.out.new (by with_reducible repeat (first | exact KeepBut.refl _ _ _ | refine KeepBut.set_ ?_ _ _)) HGR2.out, bH HB.out⟩
  · have hd : decide ((b.length : Int) < (n : Int) + 2) = false := decide_eq_false hl
    have hn1 : n + 2 ≤ b.length := by omega
    have ht1 : n ≤ b.length := by omega
    have ht2 : 2 ≤ (b.drop n).length := by rw [List.length_drop]; omega
    have ht3 : (b.drop n).length ≤ 65536 := by rw [List.length_drop]; omega
    obtain ⟨e, he⟩ : ∃ e, e = strOfNums ((b.drop n).take 2) := ⟨_, rfl⟩
    have hes : e.size = 2 := by rw [he, num_size, List.length_take, List.length_drop]; omega
    have hi1 : (1 : Int) < (e.size : Int) := by omega
    have hi2 : 1 < e.size := by omega
    have hbt : (n : Int).toNat = n := Int.toNat_natCast n
    by_cases hE : e.toList = [13, 10]
    · have hE1 : (e.toList == ([13, 10] : List UInt8)) = true := beq_iff_eq.2 hE
      have hV : valueV ⟨b, sw, rs, some (v, kd, keys, fl, ex, vl, cas, del, q, (n : Int), swl)⟩ (v, kd, keys, fl, ex, vl, cas, del, q, (n : Int), swl) = (⟨b.drop (n + 2), sw, rs, none⟩, (1, kd, keys, fl, ex, strOfNums (b.take n), cas, del, q), true) := by
        unfold valueV
        dsimp only
        rw [show byP (v, kd, keys, fl, ex, vl, cas, del, q, (n : Int), swl) = (n : Int) from rfl, if_neg hl, hbt, ← he, if_pos hE]
        rfl
      rw [hV]
      subst he
      clear hl hV hE hes hbt
      go_enter Tryd.func24, Tryd.ntmps24
      go_wp2_with (first | ((with_reducible refine gate_dst (N := 2) rfl ?_); (refine bE 2 #[.int .i64 0, .int .i64 0, .slice none 0 0, .int .u32 0, .int .i64 0, .string ⟨#[]⟩, .int .u64 0, .int .u64 0, .bool false] 39 rfl rfl ?_; intro gr hgr w1 hbox hb; have BR := Aside0.mk hbox; have HGR := Aside0.mk (show w0.heap.size ≤ gr by rw [hgr]; exact HB.out.size); have HGR2 := Aside0.mk (show w.heap.size ≤ gr from Nat.le_of_eq hgr.symm); have HK := Aside0.mk (KeptC.of_below own hb); replace HI := Aside0.mk (HI.out.below hb); replace HB := Aside0.mk (below_step HB.out hb); replace HH := Aside0.mk (blk_below HH.out hb); have hz3 := (hb.cell (World.block_lt_of_cell? w _ hcz3)).trans hcz3; replace HKY := Aside0.mk (Kd.R_below HKY.out hb); clear HBK hcz0 hcz1 hcz2 hcz3 hfz0 hfz1 hfz2 hfz3 hbox hb hgr; obtain ⟨A, c0, wp_, hb, hg, ho, hQ, hl, hW⟩ := HI.out; have HBK := Aside0.mk hb; obtain ⟨⟨hcz0, hcz1, hcz2, hcz3⟩, hfz0, hfz1, hfz2, hfz3⟩ := d4 HBK; clear hb hg ho hQ hl hW; clear hcz3; have hcz3 := hz3; clear hz3; dsimp only at hcz0; obtain ⟨hch, hfh⟩ := d11 HH)))
      go_quiet (fail)
      have hbq : Below w1.heap.size w1 (w1.drewN nq) := pw_below_drewN (Below.refl _ _) nq
      replace HI := Aside0.mk (HI.out.below hbq)
      replace HB := Aside0.mk (below_step HB.out hbq)
      replace HK := Aside0.mk (HK.out.then_ (KeptC.of_below own hbq) (fun _ h => .inl h))
      replace HH := Aside0.mk (blk_below HH.out hbq)
      replace BR := Aside0.mk (blk_below BR.out hbq)
      replace HKY := Aside0.mk (Kd.R_below HKY.out hbq)
      have hz3 := (hbq.cell (World.block_lt_of_cell? w1 _ hcz3)).trans hcz3
      clear hbq HBK hcz0 hcz1 hcz2 hcz3 hfz0 hfz1 hfz2 hfz3 hch hfh
      generalize w1.drewN nq = w2 at HI HB HK HH BR HKY hz3 ⊢
      obtain ⟨A, c0, wp_, hb, hg, ho, hQ, hl, hW⟩ := HI.out; have HBK := Aside0.mk hb; obtain ⟨⟨hcz0, hcz1, hcz2, hcz3⟩, hfz0, hfz1, hfz2, hfz3⟩ := d4 HBK; clear hb hg ho hQ hl hW
      clear hcz3
      have hcz3 := hz3
      clear hz3
      dsimp only at hcz0
      have HHG := Aside0.mk (blk_ne HH.out HBK.out (by decide))
      have HRG := Aside0.mk (blk_ne BR.out HBK.out (by decide))
      have HRH := Aside0.mk (blk_ne BR.out HH.out (by decide))
      obtain ⟨hch, hfh⟩ := d11 HH
      go_wp2_with (first | ((with_reducible refine gate_dst (N := 28) rfl ?_); have hgd_ := hn1; (obtain ⟨w3, hw3⟩ : ∃ w_, w_ = (w2.setCell ⟨g, 3, none⟩ (.pointer none)) := ⟨_, rfl⟩; have hk_ := HI0.out.keepG HK.out 3 (.pointer none) hw3; have hky_ := keys_kept HKY.out (HI.out.keepG (KeptC.refl w2 own) 3 (.pointer none) hw3); have hb_ := HI.out.base; replace HI := Aside0.mk (show CRd w0.heap.size w3 (fun k => own k ∧ k ≠ h) g ⟨b, sw, rs, none⟩ by rw [hw3]; exact HI.out.drop HH.out); replace HB := Aside0.mk (show Below w0.heap.size w0 w3 by rw [hw3]; exact below_set HB.out hb_); replace HK := Aside0.mk hk_; replace HKY := Aside0.mk hky_; have h1_ := blk_far (p := ⟨g, 3, none⟩) HH.out HHG.out (.pointer none); rw [← hw3] at h1_; replace HH := Aside0.mk h1_; have h2_ := blk_far (p := ⟨g, 3, none⟩) BR.out HRG.out (.pointer none); rw [← hw3] at h2_; replace BR := Aside0.mk h2_; clear h1_ h2_; rw [← hw3]; clear hw3 hk_ hky_ hb_ hgd_ hn1 HBK hcz0 hcz1 hcz2 hcz3 hfz0 hfz1 hfz2 hfz3 hch hfh; obtain ⟨A, c0, wp_, hb, hg, ho, hQ, hl, hW⟩ := HI.out; have HBK := Aside0.mk hb; obtain ⟨⟨hcz0, hcz1, hcz2, hcz3⟩, hfz0, hfz1, hfz2, hfz3⟩ := d4 HBK; clear hb hg ho hQ hl hW; dsimp only at hcz0; obtain ⟨hch, hfh⟩ := d11 HH)) | (go_at_call 21; have hgd_ := ht1; ((with_reducible refine (CRd.take w0 _ (fun k => own k ∧ k ≠ h) g ⟨b, sw, rs, none⟩ n HI.out HB.out ht1 hs).mono ?_); rintro e_ w4 ⟨rfl, hI, hk, hB⟩; dsimp only at hI; clear ht1 hgd_; have hk0 := hk; replace HH := Aside0.mk ((hk.2.1 h (blk_lt HH.out) (fun e => e.2 rfl)).trans HH.out); replace BR := Aside0.mk (hk.blk BR.out (by decide)); replace HKY := Aside0.mk (keys_kept HKY.out hk); replace HI := Aside0.mk hI; replace HB := Aside0.mk hB; replace HK := Aside0.mk (HK.out.then_ hk (fun _ e => .inl e.1)); clear hI hk hk0 hB HBK hcz0 hcz1 hcz2 hcz3 hfz0 hfz1 hfz2 hfz3 hch hfh; obtain ⟨A, c0, wp_, hb, hg, ho, hQ, hl, hW⟩ := HI.out; have HBK := Aside0.mk hb; obtain ⟨⟨hcz0, hcz1, hcz2, hcz3⟩, hfz0, hfz1, hfz2, hfz3⟩ := d4 HBK; clear hb hg ho hQ hl hW; dsimp only at hcz0; obtain ⟨hch, hfh⟩ := d11 HH)) | (go_at_call 21; have hgd_ := ht2; (obtain ⟨w5, hw5⟩ : ∃ w_, w_ = (w4.setCell ⟨h, 5, none⟩ (.string (strOfNums (b.take n)))) := ⟨_, rfl⟩; have ks_ : KeptC w4 w5 (fun k => k = h) := hw5 ▸ (KeptC.refl w4 (fun k => k = h)).to ((KeepBut.refl w4 h none).set_ 5 (.string (strOfNums (b.take n)))) (.inl rfl) (.inr HH.out) (.inr (.inr rfl)); replace HI := Aside0.mk (HI.out.other ks_ (fun k e => e.2)); replace HB := Aside0.mk (show Below w0.heap.size w0 w5 from hw5 ▸ below_set HB.out HBH.out); replace HK := Aside0.mk (HK.out.then_ ks_ (fun k e => .inl (e.symm ▸ HOH.out))); replace HKY := Aside0.mk (keys_kept HKY.out ks_); have h1_ := blk_put HH.out 5 (.string (strOfNums (b.take n))) rfl; rw [← hw5] at h1_; replace HH := Aside0.mk h1_; clear h1_; replace BR := Aside0.mk (ks_.blk BR.out (by decide)); rw [← hw5]; clear hw5 ks_; (with_reducible refine (CRd.take2 w0 _ (fun k => own k ∧ k ≠ h) g ⟨b.drop n, sw, rs, none⟩ HI.out HB.out ht2 ht3).mono ?_); rintro e_ w6 ⟨rfl, hI, hk, hB⟩; dsimp only at hI; clear ht2 hgd_; have hk0 := hk; replace HH := Aside0.mk ((hk.2.1 h (blk_lt HH.out) (fun e => e.2 rfl)).trans HH.out); replace BR := Aside0.mk (hk.blk BR.out (by decide)); replace HKY := Aside0.mk (keys_kept HKY.out hk); replace HI := Aside0.mk hI; replace HB := Aside0.mk hB; replace HK := Aside0.mk (HK.out.then_ hk (fun _ e => .inl e.1)); clear hI hk hk0 hB HBK hcz0 hcz1 hcz2 hcz3 hfz0 hfz1 hfz2 hfz3 hch hfh; obtain ⟨A, c0, wp_, hb, hg, ho, hQ, hl, hW⟩ := HI.out; have HBK := Aside0.mk hb; obtain ⟨⟨hcz0, hcz1, hcz2, hcz3⟩, hfz0, hfz1, hfz2, hfz3⟩ := d4 HBK; clear hb hg ho hQ hl hW; dsimp only at hcz0; obtain ⟨hch, hfh⟩ := d11 HH; obtain ⟨hcr, hfr⟩ := d9 BR)))
      refine bodyPost_ret (results_ct rfl _ _ gr 39 #[.int .i64 1, .int .i64 kd, .slice Ak keys.length ck, .int .u32 fl, .int .i64 ex, .string (strOfNums (b.take n)), .int .u64 cas, .int .u64 del, .bool q] (0, 0) _ rfl (bV BR.out) Tryd.underlying39 rfl (by kernel_rfl)) rfl ?_
      rw [List.drop_drop] at HI
      have HF := HI.out.widen (own' := own) (fun k e => e.1) (fun k hk => Nat.lt_of_lt_of_le (HI0.out.owns.2 k hk) HK.out.1)
      exact ⟨.slice Ak keys.length ck, rfl, HF.far (b := gr) BR.out (by decide) (by with_reducible repeat (first | exact KeepBut.refl _ _ _ | refine KeepBut.set_ ?_ _ _)), (Kd.R_mono (Kd.R_keep (Kd.R_types HKY.out BR.out (by simp [Kd.string, Kd.scalar])) (by with_reducible repeat (first | exact KeepBut.refl _ _ _ | refine KeepBut.set_ ?_ _ _)) (fun _ h => h.2)) (fun _ h => h.1)), HK.out.new (by with_reducible repeat (first | exact KeepBut.refl _ _ _ | refine KeepBut.set_ ?_ _ _)) HGR2.out, bH HB.out⟩
    · have hE1 : (e.toList == ([13, 10] : List UInt8)) = false := beq_eq_false_iff_ne.2 hE
      have hV : valueV ⟨b, sw, rs, some (v, kd, keys, fl, ex, vl, cas, del, q, (n : Int), swl)⟩ (v, kd, keys, fl, ex, vl, cas, del, q, (n : Int), swl) = (⟨b.drop (n + 2), sw, rs || (bt e 1 != 10), none⟩, zA 5, true) := by
        unfold valueV
        dsimp only
        rw [show byP (v, kd, keys, fl, ex, vl, cas, del, q, (n : Int), swl) = (n : Int) from rfl, if_neg hl, hbt, ← he, if_neg hE]
      rw [hV]
      cases hT : (bt e 1 != 10) with
      | true =>
        rw [Bool.or_true]
        have hbx : ∀ h_ : 1 < e.size, ((e[1]'h_).toNat : Int) = bt e 1 := fun h_ => bt_at e 1 h_
        subst he
        clear hl hV hE hes hbt
        go_enter Tryd.func24, Tryd.ntmps24
        go_wp2_with (first | ((with_reducible refine gate_dst (N := 2) rfl ?_); (refine bE 2 #[.int .i64 0, .int .i64 0, .slice none 0 0, .int .u32 0, .int .i64 0, .string ⟨#[]⟩, .int .u64 0, .int .u64 0, .bool false] 39 rfl rfl ?_; intro gr hgr w1 hbox hb; have BR := Aside0.mk hbox; have HGR := Aside0.mk (show w0.heap.size ≤ gr by rw [hgr]; exact HB.out.size); have HGR2 := Aside0.mk (show w.heap.size ≤ gr from Nat.le_of_eq hgr.symm); have HK := Aside0.mk (KeptC.of_below own hb); replace HI := Aside0.mk (HI.out.below hb); replace HB := Aside0.mk (below_step HB.out hb); replace HH := Aside0.mk (blk_below HH.out hb); have hz3 := (hb.cell (World.block_lt_of_cell? w _ hcz3)).trans hcz3; replace HKY := Aside0.mk (Kd.R_below HKY.out hb); clear HBK hcz0 hcz1 hcz2 hcz3 hfz0 hfz1 hfz2 hfz3 hbox hb hgr; obtain ⟨A, c0, wp_, hb, hg, ho, hQ, hl, hW⟩ := HI.out; have HBK := Aside0.mk hb; obtain ⟨⟨hcz0, hcz1, hcz2, hcz3⟩, hfz0, hfz1, hfz2, hfz3⟩ := d4 HBK; clear hb hg ho hQ hl hW; clear hcz3; have hcz3 := hz3; clear hz3; dsimp only at hcz0; obtain ⟨hch, hfh⟩ := d11 HH)))
        go_quiet (fail)
        have hbq : Below w1.heap.size w1 (w1.drewN nq) := pw_below_drewN (Below.refl _ _) nq
        replace HI := Aside0.mk (HI.out.below hbq)
        replace HB := Aside0.mk (below_step HB.out hbq)
        replace HK := Aside0.mk (HK.out.then_ (KeptC.of_below own hbq) (fun _ h => .inl h))
        replace HH := Aside0.mk (blk_below HH.out hbq)
        replace BR := Aside0.mk (blk_below BR.out hbq)
        replace HKY := Aside0.mk (Kd.R_below HKY.out hbq)
        have hz3 := (hbq.cell (World.block_lt_of_cell? w1 _ hcz3)).trans hcz3
        clear hbq HBK hcz0 hcz1 hcz2 hcz3 hfz0 hfz1 hfz2 hfz3 hch hfh
        generalize w1.drewN nq = w2 at HI HB HK HH BR HKY hz3 ⊢
        obtain ⟨A, c0, wp_, hb, hg, ho, hQ, hl, hW⟩ := HI.out; have HBK := Aside0.mk hb; obtain ⟨⟨hcz0, hcz1, hcz2, hcz3⟩, hfz0, hfz1, hfz2, hfz3⟩ := d4 HBK; clear hb hg ho hQ hl hW
        clear hcz3
        have hcz3 := hz3
        clear hz3
        dsimp only at hcz0
        have HHG := Aside0.mk (blk_ne HH.out HBK.out (by decide))
        have HRG := Aside0.mk (blk_ne BR.out HBK.out (by decide))
        have HRH := Aside0.mk (blk_ne BR.out HH.out (by decide))
        obtain ⟨hch, hfh⟩ := d11 HH
        go_wp2_with (first | ((with_reducible refine gate_dst (N := 28) rfl ?_); have hgd_ := hn1; (obtain ⟨w3, hw3⟩ : ∃ w_, w_ = (w2.setCell ⟨g, 3, none⟩ (.pointer none)) := ⟨_, rfl⟩; have hk_ := HI0.out.keepG HK.out 3 (.pointer none) hw3; have hky_ := keys_kept HKY.out (HI.out.keepG (KeptC.refl w2 own) 3 (.pointer none) hw3); have hb_ := HI.out.base; replace HI := Aside0.mk (show CRd w0.heap.size w3 (fun k => own k ∧ k ≠ h) g ⟨b, sw, rs, none⟩ by rw [hw3]; exact HI.out.drop HH.out); replace HB := Aside0.mk (show Below w0.heap.size w0 w3 by rw [hw3]; exact below_set HB.out hb_); replace HK := Aside0.mk hk_; replace HKY := Aside0.mk hky_; have h1_ := blk_far (p := ⟨g, 3, none⟩) HH.out HHG.out (.pointer none); rw [← hw3] at h1_; replace HH := Aside0.mk h1_; have h2_ := blk_far (p := ⟨g, 3, none⟩) BR.out HRG.out (.pointer none); rw [← hw3] at h2_; replace BR := Aside0.mk h2_; clear h1_ h2_; rw [← hw3]; clear hw3 hk_ hky_ hb_ hgd_ hn1 HBK hcz0 hcz1 hcz2 hcz3 hfz0 hfz1 hfz2 hfz3 hch hfh; obtain ⟨A, c0, wp_, hb, hg, ho, hQ, hl, hW⟩ := HI.out; have HBK := Aside0.mk hb; obtain ⟨⟨hcz0, hcz1, hcz2, hcz3⟩, hfz0, hfz1, hfz2, hfz3⟩ := d4 HBK; clear hb hg ho hQ hl hW; dsimp only at hcz0; obtain ⟨hch, hfh⟩ := d11 HH)) | (go_at_call 21; have hgd_ := ht1; ((with_reducible refine (CRd.take w0 _ (fun k => own k ∧ k ≠ h) g ⟨b, sw, rs, none⟩ n HI.out HB.out ht1 hs).mono ?_); rintro e_ w4 ⟨rfl, hI, hk, hB⟩; dsimp only at hI; clear ht1 hgd_; have hk0 := hk; replace HH := Aside0.mk ((hk.2.1 h (blk_lt HH.out) (fun e => e.2 rfl)).trans HH.out); replace BR := Aside0.mk (hk.blk BR.out (by decide)); replace HKY := Aside0.mk (keys_kept HKY.out hk); replace HI := Aside0.mk hI; replace HB := Aside0.mk hB; replace HK := Aside0.mk (HK.out.then_ hk (fun _ e => .inl e.1)); clear hI hk hk0 hB HBK hcz0 hcz1 hcz2 hcz3 hfz0 hfz1 hfz2 hfz3 hch hfh; obtain ⟨A, c0, wp_, hb, hg, ho, hQ, hl, hW⟩ := HI.out; have HBK := Aside0.mk hb; obtain ⟨⟨hcz0, hcz1, hcz2, hcz3⟩, hfz0, hfz1, hfz2, hfz3⟩ := d4 HBK; clear hb hg ho hQ hl hW; dsimp only at hcz0; obtain ⟨hch, hfh⟩ := d11 HH)) | (go_at_call 21; have hgd_ := ht2; (obtain ⟨w5, hw5⟩ : ∃ w_, w_ = (w4.setCell ⟨h, 5, none⟩ (.string (strOfNums (b.take n)))) := ⟨_, rfl⟩; have ks_ : KeptC w4 w5 (fun k => k = h) := hw5 ▸ (KeptC.refl w4 (fun k => k = h)).to ((KeepBut.refl w4 h none).set_ 5 (.string (strOfNums (b.take n)))) (.inl rfl) (.inr HH.out) (.inr (.inr rfl)); replace HI := Aside0.mk (HI.out.other ks_ (fun k e => e.2)); replace HB := Aside0.mk (show Below w0.heap.size w0 w5 from hw5 ▸ below_set HB.out HBH.out); replace HK := Aside0.mk (HK.out.then_ ks_ (fun k e => .inl (e.symm ▸ HOH.out))); replace HKY := Aside0.mk (keys_kept HKY.out ks_); have h1_ := blk_put HH.out 5 (.string (strOfNums (b.take n))) rfl; rw [← hw5] at h1_; replace HH := Aside0.mk h1_; clear h1_; replace BR := Aside0.mk (ks_.blk BR.out (by decide)); rw [← hw5]; clear hw5 ks_; (with_reducible refine (CRd.take2 w0 _ (fun k => own k ∧ k ≠ h) g ⟨b.drop n, sw, rs, none⟩ HI.out HB.out ht2 ht3).mono ?_); rintro e_ w6 ⟨rfl, hI, hk, hB⟩; dsimp only at hI; clear ht2 hgd_; have hk0 := hk; replace HH := Aside0.mk ((hk.2.1 h (blk_lt HH.out) (fun e => e.2 rfl)).trans HH.out); replace BR := Aside0.mk (hk.blk BR.out (by decide)); replace HKY := Aside0.mk (keys_kept HKY.out hk); replace HI := Aside0.mk hI; replace HB := Aside0.mk hB; replace HK := Aside0.mk (HK.out.then_ hk (fun _ e => .inl e.1)); clear hI hk hk0 hB HBK hcz0 hcz1 hcz2 hcz3 hfz0 hfz1 hfz2 hfz3 hch hfh; obtain ⟨A, c0, wp_, hb, hg, ho, hQ, hl, hW⟩ := HI.out; have HBK := Aside0.mk hb; obtain ⟨⟨hcz0, hcz1, hcz2, hcz3⟩, hfz0, hfz1, hfz2, hfz3⟩ := d4 HBK; clear hb hg ho hQ hl hW; dsimp only at hcz0; obtain ⟨hch, hfh⟩ := d11 HH; obtain ⟨hcr, hfr⟩ := d9 BR)) | ((with_reducible refine gate_dst (N := 52) rfl ?_); have hgd_ := hT; (obtain ⟨w7, hw7⟩ : ∃ w_, w_ = (w6.setCell ⟨g, 2, none⟩ (.bool true)) := ⟨_, rfl⟩; have ks_ := HI.out.keepG (KeptC.refl w6 _) 2 (.bool true) hw7; have hb_ := HI.out.base; have hi_ := HI.out.set2 true; rw [← hw7] at hi_; dsimp only at hi_; replace HI := Aside0.mk hi_; replace HB := Aside0.mk (show Below w0.heap.size w0 w7 from hw7 ▸ below_set HB.out hb_); replace HK := Aside0.mk (HK.out.then_ ks_ (fun _ e => .inl e.1)); replace BR := Aside0.mk (ks_.blk BR.out (by decide)); rw [← hw7]; clear hw7 ks_ hb_ hi_ hgd_ hT hcr hfr; obtain ⟨hcr, hfr⟩ := d9 BR)))
        refine bodyPost_ret (results_ct rfl _ _ gr 39 #[.int .i64 5, .int .i64 0, .slice none 0 0, .int .u32 0, .int .i64 0, .string ⟨#[]⟩, .int .u64 0, .int .u64 0, .bool false] (0, 0) _ rfl (bV BR.out) Tryd.underlying39 rfl (by kernel_rfl)) rfl ?_
        rw [List.drop_drop] at HI
        have HF := HI.out.widen (own' := own) (fun k e => e.1) (fun k hk => Nat.lt_of_lt_of_le (HI0.out.owns.2 k hk) HK.out.1)
        exact ⟨_, rfl, HF.far (b := gr) BR.out (by decide) (by with_reducible repeat (first | exact KeepBut.refl _ _ _ | refine KeepBut.set_ ?_ _ _)), Kd.R_nil _ _ _ _ _, HK.out.new (by with_reducible repeat (first | exact KeepBut.refl _ _ _ | refine KeepBut.set_ ?_ _ _)) HGR2.out, bH HB.out⟩
      | false =>
        rw [Bool.or_false]
        have hbx : ∀ h_ : 1 < e.size, ((e[1]'h_).toNat : Int) = bt e 1 := fun h_ => bt_at e 1 h_
        subst he
        clear hl hV hE hes hbt
        go_enter Tryd.func24, Tryd.ntmps24
        go_wp2_with (first | ((with_reducible refine gate_dst (N := 2) rfl ?_); (refine bE 2 #[.int .i64 0, .int .i64 0, .slice none 0 0, .int .u32 0, .int .i64 0, .string ⟨#[]⟩, .int .u64 0, .int .u64 0, .bool false] 39 rfl rfl ?_; intro gr hgr w1 hbox hb; have BR := Aside0.mk hbox; have HGR := Aside0.mk (show w0.heap.size ≤ gr by rw [hgr]; exact HB.out.size); have HGR2 := Aside0.mk (show w.heap.size ≤ gr from Nat.le_of_eq hgr.symm); have HK := Aside0.mk (KeptC.of_below own hb); replace HI := Aside0.mk (HI.out.below hb); replace HB := Aside0.mk (below_step HB.out hb); replace HH := Aside0.mk (blk_below HH.out hb); have hz3 := (hb.cell (World.block_lt_of_cell? w _ hcz3)).trans hcz3; replace HKY := Aside0.mk (Kd.R_below HKY.out hb); clear HBK hcz0 hcz1 hcz2 hcz3 hfz0 hfz1 hfz2 hfz3 hbox hb hgr; obtain ⟨A, c0, wp_, hb, hg, ho, hQ, hl, hW⟩ := HI.out; have HBK := Aside0.mk hb; obtain ⟨⟨hcz0, hcz1, hcz2, hcz3⟩, hfz0, hfz1, hfz2, hfz3⟩ := d4 HBK; clear hb hg ho hQ hl hW; clear hcz3; have hcz3 := hz3; clear hz3; dsimp only at hcz0; obtain ⟨hch, hfh⟩ := d11 HH)))
        go_quiet (fail)
        have hbq : Below w1.heap.size w1 (w1.drewN nq) := pw_below_drewN (Below.refl _ _) nq
        replace HI := Aside0.mk (HI.out.below hbq)
        replace HB := Aside0.mk (below_step HB.out hbq)
        replace HK := Aside0.mk (HK.out.then_ (KeptC.of_below own hbq) (fun _ h => .inl h))
        replace HH := Aside0.mk (blk_below HH.out hbq)
        replace BR := Aside0.mk (blk_below BR.out hbq)
        replace HKY := Aside0.mk (Kd.R_below HKY.out hbq)
        have hz3 := (hbq.cell (World.block_lt_of_cell? w1 _ hcz3)).trans hcz3
        clear hbq HBK hcz0 hcz1 hcz2 hcz3 hfz0 hfz1 hfz2 hfz3 hch hfh
        generalize w1.drewN nq = w2 at HI HB HK HH BR HKY hz3 ⊢
        obtain ⟨A, c0, wp_, hb, hg, ho, hQ, hl, hW⟩ := HI.out; have HBK := Aside0.mk hb; obtain ⟨⟨hcz0, hcz1, hcz2, hcz3⟩, hfz0, hfz1, hfz2, hfz3⟩ := d4 HBK; clear hb hg ho hQ hl hW
        clear hcz3
        have hcz3 := hz3
        clear hz3
        dsimp only at hcz0
        have HHG := Aside0.mk (blk_ne HH.out HBK.out (by decide))
        have HRG := Aside0.mk (blk_ne BR.out HBK.out (by decide))
        have HRH := Aside0.mk (blk_ne BR.out HH.out (by decide))
        obtain ⟨hch, hfh⟩ := d11 HH
        go_wp2_with (first | ((with_reducible refine gate_dst (N := 28) rfl ?_); have hgd_ := hn1; (obtain ⟨w3, hw3⟩ : ∃ w_, w_ = (w2.setCell ⟨g, 3, none⟩ (.pointer none)) := ⟨_, rfl⟩; have hk_ := HI0.out.keepG HK.out 3 (.pointer none) hw3; have hky_ := keys_kept HKY.out (HI.out.keepG (KeptC.refl w2 own) 3 (.pointer none) hw3); have hb_ := HI.out.base; replace HI := Aside0.mk (show CRd w0.heap.size w3 (fun k => own k ∧ k ≠ h) g ⟨b, sw, rs, none⟩ by rw [hw3]; exact HI.out.drop HH.out); replace HB := Aside0.mk (show Below w0.heap.size w0 w3 by rw [hw3]; exact below_set HB.out hb_); replace HK := Aside0.mk hk_; replace HKY := Aside0.mk hky_; have h1_ := blk_far (p := ⟨g, 3, none⟩) HH.out HHG.out (.pointer none); rw [← hw3] at h1_; replace HH := Aside0.mk h1_; have h2_ := blk_far (p := ⟨g, 3, none⟩) BR.out HRG.out (.pointer none); rw [← hw3] at h2_; replace BR := Aside0.mk h2_; clear h1_ h2_; rw [← hw3]; clear hw3 hk_ hky_ hb_ hgd_ hn1 HBK hcz0 hcz1 hcz2 hcz3 hfz0 hfz1 hfz2 hfz3 hch hfh; obtain ⟨A, c0, wp_, hb, hg, ho, hQ, hl, hW⟩ := HI.out; have HBK := Aside0.mk hb; obtain ⟨⟨hcz0, hcz1, hcz2, hcz3⟩, hfz0, hfz1, hfz2, hfz3⟩ := d4 HBK; clear hb hg ho hQ hl hW; dsimp only at hcz0; obtain ⟨hch, hfh⟩ := d11 HH)) | (go_at_call 21; have hgd_ := ht1; ((with_reducible refine (CRd.take w0 _ (fun k => own k ∧ k ≠ h) g ⟨b, sw, rs, none⟩ n HI.out HB.out ht1 hs).mono ?_); rintro e_ w4 ⟨rfl, hI, hk, hB⟩; dsimp only at hI; clear ht1 hgd_; have hk0 := hk; replace HH := Aside0.mk ((hk.2.1 h (blk_lt HH.out) (fun e => e.2 rfl)).trans HH.out); replace BR := Aside0.mk (hk.blk BR.out (by decide)); replace HKY := Aside0.mk (keys_kept HKY.out hk); replace HI := Aside0.mk hI; replace HB := Aside0.mk hB; replace HK := Aside0.mk (HK.out.then_ hk (fun _ e => .inl e.1)); clear hI hk hk0 hB HBK hcz0 hcz1 hcz2 hcz3 hfz0 hfz1 hfz2 hfz3 hch hfh; obtain ⟨A, c0, wp_, hb, hg, ho, hQ, hl, hW⟩ := HI.out; have HBK := Aside0.mk hb; obtain ⟨⟨hcz0, hcz1, hcz2, hcz3⟩, hfz0, hfz1, hfz2, hfz3⟩ := d4 HBK; clear hb hg ho hQ hl hW; dsimp only at hcz0; obtain ⟨hch, hfh⟩ := d11 HH)) | (go_at_call 21; have hgd_ := ht2; (obtain ⟨w5, hw5⟩ : ∃ w_, w_ = (w4.setCell ⟨h, 5, none⟩ (.string (strOfNums (b.take n)))) := ⟨_, rfl⟩; have ks_ : KeptC w4 w5 (fun k => k = h) := hw5 ▸ (KeptC.refl w4 (fun k => k = h)).to ((KeepBut.refl w4 h none).set_ 5 (.string (strOfNums (b.take n)))) (.inl rfl) (.inr HH.out) (.inr (.inr rfl)); replace HI := Aside0.mk (HI.out.other ks_ (fun k e => e.2)); replace HB := Aside0.mk (show Below w0.heap.size w0 w5 from hw5 ▸ below_set HB.out HBH.out); replace HK := Aside0.mk (HK.out.then_ ks_ (fun k e => .inl (e.symm ▸ HOH.out))); replace HKY := Aside0.mk (keys_kept HKY.out ks_); have h1_ := blk_put HH.out 5 (.string (strOfNums (b.take n))) rfl; rw [← hw5] at h1_; replace HH := Aside0.mk h1_; clear h1_; replace BR := Aside0.mk (ks_.blk BR.out (by decide)); rw [← hw5]; clear hw5 ks_; (with_reducible refine (CRd.take2 w0 _ (fun k => own k ∧ k ≠ h) g ⟨b.drop n, sw, rs, none⟩ HI.out HB.out ht2 ht3).mono ?_); rintro e_ w6 ⟨rfl, hI, hk, hB⟩; dsimp only at hI; clear ht2 hgd_; have hk0 := hk; replace HH := Aside0.mk ((hk.2.1 h (blk_lt HH.out) (fun e => e.2 rfl)).trans HH.out); replace BR := Aside0.mk (hk.blk BR.out (by decide)); replace HKY := Aside0.mk (keys_kept HKY.out hk); replace HI := Aside0.mk hI; replace HB := Aside0.mk hB; replace HK := Aside0.mk (HK.out.then_ hk (fun _ e => .inl e.1)); clear hI hk hk0 hB HBK hcz0 hcz1 hcz2 hcz3 hfz0 hfz1 hfz2 hfz3 hch hfh; obtain ⟨A, c0, wp_, hb, hg, ho, hQ, hl, hW⟩ := HI.out; have HBK := Aside0.mk hb; obtain ⟨⟨hcz0, hcz1, hcz2, hcz3⟩, hfz0, hfz1, hfz2, hfz3⟩ := d4 HBK; clear hb hg ho hQ hl hW; dsimp only at hcz0; obtain ⟨hch, hfh⟩ := d11 HH; obtain ⟨hcr, hfr⟩ := d9 BR)))
        refine bodyPost_ret (results_ct rfl _ _ gr 39 #[.int .i64 5, .int .i64 0, .slice none 0 0, .int .u32 0, .int .i64 0, .string ⟨#[]⟩, .int .u64 0, .int .u64 0, .bool false] (0, 0) _ rfl (bV BR.out) Tryd.underlying39 rfl (by kernel_rfl)) rfl ?_
        rw [List.drop_drop] at HI
        have HF := HI.out.widen (own' := own) (fun k e => e.1) (fun k hk => Nat.lt_of_lt_of_le (HI0.out.owns.2 k hk) HK.out.1)
        exact ⟨_, rfl, HF.far (b := gr) BR.out (by decide) (by with_reducible repeat (first | exact KeepBut.refl _ _ _ | refine KeepBut.set_ ?_ _ _)), Kd.R_nil _ _ _ _ _, HK.out.new (by with_reducible repeat (first | exact KeepBut.refl _ _ _ | refine KeepBut.set_ ?_ _ _)) HGR2.out, bH HB.out⟩
end Go.Proofs.YtginfaencjmhgaaDoor.P
