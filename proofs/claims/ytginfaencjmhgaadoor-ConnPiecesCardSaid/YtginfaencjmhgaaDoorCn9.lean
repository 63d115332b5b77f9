/- ConnPieces' walk. Conditions: the readings that each theorem names. -/
import Derived.Test.YtginfaencjmhgaaDoorCnt
namespace Go.Proofs.YtginfaencjmhgaaDoor.P
open Go.RowKit Go.Proofs.YtginfaencjmhgaaDoorW.PrintWords Go.Proofs.YtginfaencjmhgaaDoorW.PrintLast Go.Proofs.YtginfaencjmhgaaDoorW.PrintMore Go.Proofs.YtginfaencjmhgaaDoor.Pl Go.Proofs.YtginfaencjmhgaaDoor.Lim
set_option linter.unusedVariables false
set_option linter.unusedSimpArgs false
attribute [local go_sem] min2_int min_two
/-- A row stays where another row of the same kind of elements grows, if these are two. -/
theorem R_two {α : Type} {d : Kd α} {e base : Nat} {ok : Nat → Prop} {W w1 : World} {u v : Value} {xs : List α} (h : d.R e W base ok u xs) (hty : ∀ k, v.ownBlock = some k → ∃ cells, W.heap[k]? = some (.cells cells e (0, 0))) (hne : ∀ k, u.ownBlock = some k → v.ownBlock ≠ some k) (ht : ∀ q, q ∈ d.E → q ≠ e) (hg : W.grownBy w1 v.ownBlock) : d.R e w1 base ok u xs := by
  have hl := Kd.R_lt h
  obtain ⟨h0, inner, ho, hr⟩ := h
  refine ⟨h0, inner, own_move ho (fun k hk => hg.block k (hl k hk) (fun e => hne k hk e.symm)), hr.imp_ (fun _ _ hp => d.M_mono (fun k hk => hk.1) (d.M_move (fun k hk => hg.block k hk.2.2.1 fun he => ?_) (d.M_bound hp)))⟩
  obtain ⟨_, _, _, q, hq, cells, hc⟩ := hk
  obtain ⟨cells', hc'⟩ := hty k he.symm
  rw [hc] at hc'
  injection hc' with hc'
  injection hc' with _ hc'
  exact ht q hq hc'
/-- A row of one's own, read with what each element's cells lead to; none of that is a block of another row's kind. -/
theorem R_MC {α : Type} {d : Kd α} {e base n c : Nat} {ok : Nat → Prop} {W : World} {A : Option Addr} {v : Value} {xs : List α} (h : d.R e W base ok (.slice A n c) xs) (hty : ∀ k, v.ownBlock = some k → ∃ cells, W.heap[k]? = some (.cells cells e (0, 0))) (ht : ∀ q, q ∈ d.E → q ≠ e) : ReadsRow (d.M W base (fun k => True ∧ some k ≠ v.ownBlock)) d.sz W A n xs := by
  have hn := (Kd.R_reads' h).1
  obtain ⟨h0, hr⟩ := h
  obtain ⟨A', c', he, hl, hr⟩ := OwnRow.reads hr
  injection he with h1 h2 h3
  subst h1
  rw [hn]
  refine hr.imp_ (Below.refl _ _) (fun _ _ hp => d.M_mono (fun k hk => ⟨trivial, fun he => ?_⟩) (d.M_bound hp))
  obtain ⟨_, _, _, q, hq, cells, hc⟩ := hk
  obtain ⟨cells', hc'⟩ := hty k he.symm
  rw [hc] at hc'
  injection hc' with hc'
  injection hc' with _ hc'
  exact ht q hq hc'
theorem cut2 (A : Option Addr) (n c lo hi : Nat) (h1 : lo ≤ hi) (h2 : hi ≤ n) (hc : n ≤ c) : ∃ A' : Option Addr, (∀ W : World, (Instr.slice 22 (.slice A n c) (some (.int .i64 (lo : Int))) (some (.int .i64 (hi : Int))) none).run Tryd.prog W = .ok (.slice A' (hi - lo) (c - lo)) W) ∧
    ∀ (W : World) (xs : List Int), xs.length = n → kB.C W A n xs → kB.C W A' (hi - lo) ((xs.take hi).drop lo) := by
  obtain ⟨i, hi1, hi2⟩ := Option.map_eq_some_iff.1 info_u8
  simp only [Prod.mk.injEq] at hi2
  refine ⟨if c = lo then A else A.map (·.add (lo * 1)), fun W => ?_, fun W xs hl h => ?_⟩
  · have hel : Tryd.prog.elem 22 = 5 := by simp [Program.elem, Tryd.underlying22]
    have hu : Tryd.prog.underlying 22 = some (.slice (Tryd.prog.elem 22)) := by rw [hel]; exact Tryd.underlying22
    rw [run_slice_lh W 22 A n c hu .i64 .i64 (lo : Int) (hi : Int) (by omega) (by omega) (by omega), hel]
    simp [sizeOf, typeInfo, hi1, hi2.2.1, sliced, Result.andThen]
  · subst hl
    have := Kd.C_mid (c := c) h h1 h2 hc
    rw [show ((xs.take hi).drop lo).length = hi - lo by rw [List.length_drop, List.length_take]; omega] at this
    exact this
theorem piece (l : List Int) (a e : Nat) (h : a ≤ e) (he : e ≤ l.length) : l.take a ++ (l.take e).drop a = l.take e ∧ ((l.take e).drop a).length = e - a := by
  refine ⟨?_, by rw [List.length_drop, List.length_take]; omega⟩
  have : l.take a = (l.take e).take a := by rw [List.take_take, Nat.min_eq_left h]
  rw [this, List.take_append_drop]
set_option maxHeartbeats 8000000 in
set_option maxRecDepth 100000 in
theorem cp_law (w0 : World) (A0 : Option Addr) (c0 : Nat) (l0 : List Int) (A1 : Option Addr) (c1 : Nat) (l1 : List Int) (hr0 : kB.C w0 A0 l0.length l0) (hc0 : l0.length ≤ c0) (hr1 : Kd.C (Kd.int .i64) w0 A1 l1.length l1) (hL : LdS w0) :
    Calls Tryd.prog 3 #[.slice A0 l0.length c0, .slice A1 l1.length c1] w0 fun e w' => e = .returned (.bool true) ∧ Below w0.heap.size w0 w' := by
  have HL := Aside0.mk hL
  clear hL
  by_cases hlen : (l0.length : Int) > 6000
  · have hd : decide ((l0.length : Int) > 6000) = true := decide_eq_true hlen
    have hd2 : decide ((6000 : Int) < (l0.length : Int)) = true := decide_eq_true hlen
    go_enter Tryd.func3, Tryd.ntmps3
    go_wp2_with (first | (go_at_call 8; ((with_reducible refine (works_calls w0 HL.out).mono ?_); rintro e_ w1 ⟨rfl, hb⟩; have HB := Aside0.mk hb; clear hb)))
    go_ret
    exact ⟨rfl, HB.out⟩
  have hd : decide ((l0.length : Int) > 6000) = false := decide_eq_false hlen
  have hd2 : decide ((6000 : Int) < (l0.length : Int)) = false := decide_eq_false hlen
  have hl6 : l0.length ≤ 6000 := by omega
  have hl65 : s0.b.length + l0.length ≤ 65536 := by show 0 + _ ≤ _; omega
  have hl65b : (CS.mk l0 0 false none).b.length ≤ 65536 := by show l0.length ≤ _; omega
  obtain ⟨XW, HXW⟩ : ∃ X, Aside0 (X = (allV 30000 ⟨l0, 0, false, none⟩).1) := ⟨_, ⟨rfl⟩⟩
  have G1 := trivial
  go_enter Tryd.func3, Tryd.ntmps3
  go_wp2_with (first | (go_at_call 8; ((with_reducible refine (works_calls w0 HL.out).mono ?_); rintro e_ w1 ⟨rfl, hb⟩; have HB := Aside0.mk hb; clear hb)) | (go_at_call 9; have hgd_ := G1; ((with_reducible refine (CRd.new w0 w1 HB.out).mono ?_); rintro e_ w2 ⟨gc, rfl, hI, hg, hB, hb⟩; have HI := Aside0.mk hI; replace HB := Aside0.mk hB; have G2 := trivial; clear hI hg hB hb G1 hgd_)) | ((with_reducible refine gate_builtin (b := .append) (xs := #[.tmp 19, .tmp 20]) rfl ?_); at_builtin; have hgd_ := G2; (refine fr_append (w0 := w0) w0.heap.size rfl (.tmp 19) (.tmp 20) 22 5 (.int .u8 0) 1 rfl Tryd.underlying22 info_u8 rfl (by decide) (.slice (some ⟨w2.heap.size, 0, none⟩) 0 0) [] l0 _ _ _ (fun k => w2.heap.size ≤ k) rfl rfl (nil_Q w2 _ _ HB.out.size (Nat.le_refl _)) (Kd.C_below hr0 (below_alloc HB.out _)) (fun k hk => above_nil hk) (below_alloc HB.out _) (above_nil2 HB.out.size) (by simp only [List.length_nil]; omega) ?_; intro v1 w3 hq1 hb1 hg1 hat1; rw [List.nil_append] at hq1; obtain ⟨B1A, B1c, rfl, hc1⟩ := Kd.Q_slice hq1; have HC1 := Aside0.mk (Kd.Q_reads' hq1).2.2; replace HI := Aside0.mk (CRd.below HI.out (below_nil hg1)); replace HB := Aside0.mk hb1; clear hq1 hb1 hg1 hat1 hc1 hgd_)) | (go_at_call 10; have hgd_ := G2; ((with_reducible refine (CRd.feed w0 _ _ gc s0 B1A B1c l0.length l0 rfl HI.out HB.out HC1.out hl65).mono ?_); rintro e_ w4 ⟨rfl, oc1, hI, hO, hk, hB⟩; replace HI := Aside0.mk (show CRd w0.heap.size w4 oc1 gc ⟨l0, 0, false, none⟩ from hI); replace HB := Aside0.mk hB; have G3 := trivial; clear HC1 hI hO hk hB G2 hgd_)) | (go_at_call 11; have hgd_ := G3; (have hv_ := CRd.all w0 w4 oc1 gc ⟨l0, 0, false, none⟩ HI.out HB.out (good0 l0) hl65b HL.out; rw [← HXW.out] at hv_; (with_reducible refine hv_.mono ?_); rintro e_ w5 ⟨u, oc2, rfl, hI, hO, hR, hk, hB⟩; obtain ⟨A3, c3, rfl⟩ := Kd.R_slice hR; rw [List.length_map]; have HW := Aside0.mk (R_len hR); replace HB := Aside0.mk hB; have G4 := trivial; clear hv_ hI hO hR hk hB G3 hgd_ HI)) | (go_at_call 9; have hgd_ := G4; ((with_reducible refine (CRd.new w0 w5 HB.out).mono ?_); rintro e_ w6 ⟨gy, rfl, hI, hg, hB, hb⟩; have HI := Aside0.mk hI; have HWL := Aside0.mk (show ∀ k, (Value.slice A3 XW.length c3).ownBlock = some k → k < w5.heap.size from Kd.R_lt HW.out); have HS := Aside0.mk hb.size; replace HW := Aside0.mk (Kd.R_below HW.out hb); replace HB := Aside0.mk hB; clear hI hg hB hb G4 hgd_)))
  clear hd hd2 hl65 hl65b hlen
  go_loopg [8, 9, 10] l0.length (fun q v8 v9 v10 wi => ∃ (i at_ : Nat) (acc : List AT) (ys : CS) (own : Nat → Prop), v10 = .int .i64 (i : Int) ∧ v9 = .int .i64 (at_ : Int) ∧ Aside0 (q + at_ = l0.length) ∧ Aside0 (i ≤ at_) ∧ Aside0 (Pcs 30000 s0 (l0.take at_) acc ys) ∧ Aside0 (CRd w0.heap.size wi own gy ys) ∧ Aside0 (Kd.R k50 50 wi w0.heap.size (fun _ => True) (.slice A3 XW.length c3) (XW.map cvA)) ∧ Aside0 (Kd.R k50 50 wi w0.heap.size (fun _ => True) v8 (acc.map cvA)) ∧ Aside0 (∀ k, v8.ownBlock = some k → w5.heap.size ≤ k) ∧ Aside0 (w5.heap.size ≤ wi.heap.size) ∧ Aside0 (Below w0.heap.size w0 wi))
  case atStart => exact ⟨0, 0, [], s0, fun k => k = gy, rfl, rfl, ⟨rfl⟩, ⟨Nat.le_refl _⟩, ⟨Pcs.begin 30000⟩, HI, HW, ⟨Kd.R_nil _ _ _ _ _⟩, ⟨fun k h => by cases h⟩, HS, HB⟩
  case round =>
    clear HI HW HS HB
    obtain ⟨i, at_, acc, ys, own, rfl, rfl, HQ, HQI, HP, HI, HW, HO, HOL, HS, HB⟩ := hrel
    by_cases ha : at_ < l0.length
    · have ha1 : decide ((at_ : Int) < (l0.length : Int)) = true := decide_eq_true (by omega)
      have haN : decide (at_ < l0.length) = true := decide_eq_true ha
      have HWI := Aside0.mk (show wrap64 ((i : Int) + 1) = (i : Int) + 1 by have := HQI.out; unfold wrap64; omega)
      obtain ⟨r_, hr_⟩ : ∃ r_ : Nat, r_ = l0.length - at_ := ⟨_, rfl⟩
      have HWS := Aside0.mk (show wrap64 ((l0.length : Int) - (at_ : Int)) = (r_ : Int) by unfold wrap64; omega)
      by_cases hi : i < l1.length
      · have hi1 : decide ((i : Int) < (l1.length : Int)) = true := decide_eq_true (by omega)
        have hiN : decide (i < l1.length) = true := decide_eq_true hi
        have p8 : (0 ≤ (i : Int)) = True := eq_true (by omega)
        have q8 : ((i : Int) < (l1.length : Int)) = True := eq_true (by omega)
        obtain ⟨ad, rfl, hcell⟩ := Kd.at_int (Kd.C_below hr1 HB.out) (i : Int) (by omega) (by omega)
        simp only [Int.toNat_natCast] at hcell
        obtain ⟨m, hm, hm1, hm2⟩ := mod_n (rd l1 (i : Int)) 40 1 (by decide) (by decide) (by decide)
        have HM := Aside0.mk (show wrap64 (1 + wrap64 ((IntKind.u64.wrap (rd l1 (i : Int))).tmod 40)) = (m : Int) from hm)
        clear hm
        obtain ⟨n, hn⟩ : ∃ n, n = min m r_ := ⟨_, rfl⟩
        have HMIN := Aside0.mk (show min (m : Int) (r_ : Int) = (n : Int) ∧ (if (l0.length : Int) - (at_ : Int) < (m : Int) then (l0.length : Int) - (at_ : Int) else (m : Int)) = (n : Int) by refine ⟨by omega, ?_⟩; split <;> omega)
        obtain ⟨e_, he_⟩ : ∃ e_, e_ = at_ + n := ⟨_, rfl⟩
        have HWN := Aside0.mk (show wrap64 ((at_ : Int) + (n : Int)) = (e_ : Int) by unfold wrap64; omega)
        have HWN2 := Aside0.mk (show (at_ : Int) + (n : Int) = (e_ : Int) by omega)
        have hn1 : 1 ≤ n := by omega
        have hn2 : e_ ≤ l0.length := by omega
        have hn3 : at_ < e_ := by omega
        clear hm1 hm2 hn he_ hr_
        obtain ⟨PL, hPL⟩ : ∃ P, P = (l0.take e_).drop at_ := ⟨_, rfl⟩
        obtain ⟨d_, hd_⟩ : ∃ d_, d_ = e_ - at_ := ⟨_, rfl⟩
        obtain ⟨X, hX⟩ : ∃ X, X = allV 30000 (ys.add PL) := ⟨_, rfl⟩
        have hpc := piece l0 at_ e_ (by omega) (by omega)
        rw [← hPL, ← hd_] at hpc
        have hyl := HP.out.len
        rw [List.length_take] at hyl
        have hF : ys.b.length + PL.length ≤ 65536 := by rw [hpc.2]; omega
        have hF2 : (ys.add PL).b.length ≤ 65536 := by show (ys.b ++ _).length ≤ _; rw [List.length_append]; exact hF
        have hGd := add_good HP.out.ok PL
        have HP2 := Aside0.mk (HP.out.more PL (by rw [hpc.2, List.length_take]; omega))
        rw [hpc.1, ← hX] at HP2
        have hna : acc.length + X.1.length ≤ 6000 := by
          have h1 := HP2.out.whole (by rw [List.length_take]; omega)
          have h2 := all_len 30000 (s0.add (l0.take e_)) (good0 _).ok
          rw [h1, List.length_append] at h2
          have h3 : (s0.add (l0.take e_)).b.length ≤ 6000 := by show ([] ++ _ : List Int).length ≤ _; rw [List.nil_append, List.length_take]; omega
          omega
        obtain ⟨A5, hcut, hcutC⟩ := cut2 A0 l0.length c0 at_ e_ (by omega) (by omega) hc0
        have HCP := Aside0.mk (hcutC wr l0 rfl (Kd.C_below hr0 HB.out))
        have HPD := Aside0.mk (show PL.length = d_ ∧ d_ ≤ 6000 from ⟨hpc.2, by omega⟩)
        rw [← hPL, ← hd_] at HCP
        rw [← hd_] at hcut
        have HX := Aside0.mk hX
        have HNA := Aside0.mk hna
        have HF := Aside0.mk (And.intro hF hF2)
        have HGD := Aside0.mk hGd
        clear hX hpc hyl hcutC hna hF hF2 hGd hPL hd_
        have hs1 : ((at_ : Int) ≤ (e_ : Int)) = True := eq_true (by omega)
        have hs2 : (at_ ≤ e_) = True := eq_true (by omega)
        have HE := Aside0.mk (And.intro hn2 hn3)
        clear hn1 hn2 hn3
        have G5 := trivial
        have hwi := HWI.out
        have hws := HWS.out
        have hwn := HWN.out
        have hwn2 := HWN2.out
        obtain ⟨hmin, hmin2⟩ := HMIN.out
        clear HWI HWS HWN HWN2 HMIN
        have hm := HM.out
        clear HM
        go_wp2_with (first | ((with_reducible refine gate_builtin (b := .append) (xs := #[.tmp 52, .tmp 58]) rfl ?_); at_builtin; have hgd_ := G5; (refine fr_append (w0 := w0) w0.heap.size rfl (.tmp 52) (.tmp 58) 22 5 (.int .u8 0) 1 rfl Tryd.underlying22 info_u8 rfl (by decide) (.slice (some ⟨wr.heap.size, 0, none⟩) 0 0) [] PL _ _ _ (fun k => wr.heap.size ≤ k) rfl rfl (nil_Q wr _ _ HB.out.size (Nat.le_refl _)) (Kd.C_below HCP.out (below_alloc (Below.refl _ _) _)) (fun k hk => above_nil hk) (below_alloc HB.out _) (above_nil2 HB.out.size) (by simp only [List.length_nil]; have := HPD.out; omega) ?_; intro v1 w8 hq1 hb1 hg1 hat1; rw [List.nil_append] at hq1; obtain ⟨B2A, B2c, rfl, hc1⟩ := Kd.Q_slice hq1; have HC2 := Aside0.mk (Kd.Q_reads' hq1).2.2; replace HW := Aside0.mk (Kd.R_below HW.out (below_nil hg1)); replace HO := Aside0.mk (Kd.R_below HO.out (below_nil hg1)); replace HS := Aside0.mk (Nat.le_trans HS.out (below_nil hg1).size); have G6 := trivial; clear HCP; replace HI := Aside0.mk (CRd.below HI.out (below_nil hg1)); replace HB := Aside0.mk hb1; clear hq1 hb1 hg1 hat1 hc1 hgd_)) | (go_at_call 10; have hgd_ := G6; ((with_reducible refine (CRd.feed w0 _ own gy ys B2A B2c _ PL rfl HI.out HB.out HC2.out HF.out.1).mono ?_); rintro e_ w9 ⟨rfl, own2, hI, hO, hk, hB⟩; replace HI := Aside0.mk hI; replace HB := Aside0.mk hB; replace HW := Aside0.mk (R_keptC HW.out hk (by decide)); replace HO := Aside0.mk (R_keptC HO.out hk (by decide)); replace HS := Aside0.mk (Nat.le_trans HS.out hk.1); have G7 := trivial; clear HC2 hI hO hk hB G6 hgd_)) | (go_at_call 11; have hgd_ := G7; (have hv_ := CRd.all w0 w9 own2 gy (ys.add PL) HI.out HB.out HGD.out HF.out.2 HL.out; rw [← HX.out] at hv_; (with_reducible refine hv_.mono ?_); rintro e_ w10 ⟨u, own3, rfl, hI, hO, hR, hk, hB⟩; obtain ⟨A4, c4, rfl⟩ := Kd.R_slice hR; rw [List.length_map]; have HN := Aside0.mk (R_len hR); replace HI := Aside0.mk hI; replace HB := Aside0.mk hB; replace HW := Aside0.mk (R_keptC HW.out hk (by decide)); replace HO := Aside0.mk (R_keptC HO.out hk (by decide)); replace HS := Aside0.mk (Nat.le_trans HS.out hk.1); have G8 := trivial; clear hv_ hI hO hR hk hB G7 hgd_)) | ((with_reducible refine gate_builtin (b := .append) (xs := #[.tmp 65, .tmp 67]) rfl ?_); at_builtin; have hgd_ := G8; (refine Kd.R_append_rows k50 (w0 := w0) w0.heap.size rfl (.tmp 65) (.tmp 67) 29 50 (.agg #[.int .i64 0, .int .i64 0, .slice none 0 0, .int .u32 0, .int .i64 0, .string ⟨#[]⟩, .int .u64 0, .int .u64 0, .bool false]) 96 rfl Tryd.underlying29 info_ask rfl (by decide) (by omega) u8 (acc.map cvA) (X.1.map cvA) A4 _ c4 (fun _ => True) (fun k => True ∧ some k ≠ u8.ownBlock) rfl rfl HO.out (R_MC HN.out (Kd.R_typed HO.out) (by decide)) (fun _ _ h => h) (fun _ h => h) (fun _ _ => trivial) HB.out HB.out.size ?aL ?_; (case aL => simp only [List.length_map]; have := HNA.out; omega); intro v1 w11 ho hb hg hat; replace HI := Aside0.mk (HI.out.grown hg (Kd.R_typed HO.out)); replace HW := Aside0.mk (R_two HW.out (Kd.R_typed HO.out) (fun k hk e => by have := HWL.out k hk; have := HOL.out k e; omega) (by decide) hg); have HOL2 := Aside0.mk (show ∀ k, v1.ownBlock = some k → w5.heap.size ≤ k from fun k e => hat.elim (fun h => HOL.out k (h ▸ e)) (fun ⟨b_, h1, h2⟩ => by rw [h1] at e; injection e with e; rw [← e]; exact Nat.le_trans HS.out h2)); replace HS := Aside0.mk (Nat.le_trans HS.out hg.size); replace HO := Aside0.mk ho; replace HB := Aside0.mk hb; clear HOL HN ho hb hg hat G8 hgd_)))
        go_roundg (l0.length - e_)
        case measure => have := HQ.out; have := HE.out; omega
        case rel => exact ⟨i + 1, e_, acc ++ X.1, X.2, own3, congrArg (Value.int .i64) (by first | exact hwi.trans (Int.natCast_succ i).symm | exact (Int.natCast_succ i).symm), rfl, ⟨by have := HE.out; omega⟩, ⟨by have := HQI.out; have := HE.out; omega⟩, HP2, HI, HW, ⟨by rw [List.map_append]; exact HO.out⟩, HOL2, HS, HB⟩
      · have hi1 : decide ((i : Int) < (l1.length : Int)) = false := decide_eq_false (by omega)
        have hiN : decide (i < l1.length) = false := decide_eq_false hi
        obtain ⟨n, hn⟩ : ∃ n : Nat, n = 1 := ⟨_, rfl⟩
        have HMIN := Aside0.mk (show min (1 : Int) (r_ : Int) = (n : Int) ∧ True from ⟨by omega, trivial⟩)
        obtain ⟨e_, he_⟩ : ∃ e_, e_ = at_ + n := ⟨_, rfl⟩
        have HWN := Aside0.mk (show wrap64 ((at_ : Int) + 1) = (e_ : Int) by unfold wrap64; omega)
        have HWN2 := Aside0.mk (show (at_ : Int) + 1 = (e_ : Int) by omega)
        have hn1 : 1 ≤ n := by omega
        have hn2 : e_ ≤ l0.length := by omega
        have hn3 : at_ < e_ := by omega
        clear hn he_ hr_
        obtain ⟨PL, hPL⟩ : ∃ P, P = (l0.take e_).drop at_ := ⟨_, rfl⟩
        obtain ⟨d_, hd_⟩ : ∃ d_, d_ = e_ - at_ := ⟨_, rfl⟩
        obtain ⟨X, hX⟩ : ∃ X, X = allV 30000 (ys.add PL) := ⟨_, rfl⟩
        have hpc := piece l0 at_ e_ (by omega) (by omega)
        rw [← hPL, ← hd_] at hpc
        have hyl := HP.out.len
        rw [List.length_take] at hyl
        have hF : ys.b.length + PL.length ≤ 65536 := by rw [hpc.2]; omega
        have hF2 : (ys.add PL).b.length ≤ 65536 := by show (ys.b ++ _).length ≤ _; rw [List.length_append]; exact hF
        have hGd := add_good HP.out.ok PL
        have HP2 := Aside0.mk (HP.out.more PL (by rw [hpc.2, List.length_take]; omega))
        rw [hpc.1, ← hX] at HP2
        have hna : acc.length + X.1.length ≤ 6000 := by
          have h1 := HP2.out.whole (by rw [List.length_take]; omega)
          have h2 := all_len 30000 (s0.add (l0.take e_)) (good0 _).ok
          rw [h1, List.length_append] at h2
          have h3 : (s0.add (l0.take e_)).b.length ≤ 6000 := by show ([] ++ _ : List Int).length ≤ _; rw [List.nil_append, List.length_take]; omega
          omega
        obtain ⟨A5, hcut, hcutC⟩ := cut2 A0 l0.length c0 at_ e_ (by omega) (by omega) hc0
        have HCP := Aside0.mk (hcutC wr l0 rfl (Kd.C_below hr0 HB.out))
        have HPD := Aside0.mk (show PL.length = d_ ∧ d_ ≤ 6000 from ⟨hpc.2, by omega⟩)
        rw [← hPL, ← hd_] at HCP
        rw [← hd_] at hcut
        have HX := Aside0.mk hX
        have HNA := Aside0.mk hna
        have HF := Aside0.mk (And.intro hF hF2)
        have HGD := Aside0.mk hGd
        clear hX hpc hyl hcutC hna hF hF2 hGd hPL hd_
        have hs1 : ((at_ : Int) ≤ (e_ : Int)) = True := eq_true (by omega)
        have hs2 : (at_ ≤ e_) = True := eq_true (by omega)
        have HE := Aside0.mk (And.intro hn2 hn3)
        clear hn1 hn2 hn3
        have G5 := trivial
        have hwi := HWI.out
        have hws := HWS.out
        have hwn := HWN.out
        have hwn2 := HWN2.out
        obtain ⟨hmin, hmin2⟩ := HMIN.out
        clear HWI HWS HWN HWN2 HMIN
        go_wp2_with (first | ((with_reducible refine gate_builtin (b := .append) (xs := #[.tmp 52, .tmp 58]) rfl ?_); at_builtin; have hgd_ := G5; (refine fr_append (w0 := w0) w0.heap.size rfl (.tmp 52) (.tmp 58) 22 5 (.int .u8 0) 1 rfl Tryd.underlying22 info_u8 rfl (by decide) (.slice (some ⟨wr.heap.size, 0, none⟩) 0 0) [] PL _ _ _ (fun k => wr.heap.size ≤ k) rfl rfl (nil_Q wr _ _ HB.out.size (Nat.le_refl _)) (Kd.C_below HCP.out (below_alloc (Below.refl _ _) _)) (fun k hk => above_nil hk) (below_alloc HB.out _) (above_nil2 HB.out.size) (by simp only [List.length_nil]; have := HPD.out; omega) ?_; intro v1 w8 hq1 hb1 hg1 hat1; rw [List.nil_append] at hq1; obtain ⟨B2A, B2c, rfl, hc1⟩ := Kd.Q_slice hq1; have HC2 := Aside0.mk (Kd.Q_reads' hq1).2.2; replace HW := Aside0.mk (Kd.R_below HW.out (below_nil hg1)); replace HO := Aside0.mk (Kd.R_below HO.out (below_nil hg1)); replace HS := Aside0.mk (Nat.le_trans HS.out (below_nil hg1).size); have G6 := trivial; clear HCP; replace HI := Aside0.mk (CRd.below HI.out (below_nil hg1)); replace HB := Aside0.mk hb1; clear hq1 hb1 hg1 hat1 hc1 hgd_)) | (go_at_call 10; have hgd_ := G6; ((with_reducible refine (CRd.feed w0 _ own gy ys B2A B2c _ PL rfl HI.out HB.out HC2.out HF.out.1).mono ?_); rintro e_ w9 ⟨rfl, own2, hI, hO, hk, hB⟩; replace HI := Aside0.mk hI; replace HB := Aside0.mk hB; replace HW := Aside0.mk (R_keptC HW.out hk (by decide)); replace HO := Aside0.mk (R_keptC HO.out hk (by decide)); replace HS := Aside0.mk (Nat.le_trans HS.out hk.1); have G7 := trivial; clear HC2 hI hO hk hB G6 hgd_)) | (go_at_call 11; have hgd_ := G7; (have hv_ := CRd.all w0 w9 own2 gy (ys.add PL) HI.out HB.out HGD.out HF.out.2 HL.out; rw [← HX.out] at hv_; (with_reducible refine hv_.mono ?_); rintro e_ w10 ⟨u, own3, rfl, hI, hO, hR, hk, hB⟩; obtain ⟨A4, c4, rfl⟩ := Kd.R_slice hR; rw [List.length_map]; have HN := Aside0.mk (R_len hR); replace HI := Aside0.mk hI; replace HB := Aside0.mk hB; replace HW := Aside0.mk (R_keptC HW.out hk (by decide)); replace HO := Aside0.mk (R_keptC HO.out hk (by decide)); replace HS := Aside0.mk (Nat.le_trans HS.out hk.1); have G8 := trivial; clear hv_ hI hO hR hk hB G7 hgd_)) | ((with_reducible refine gate_builtin (b := .append) (xs := #[.tmp 65, .tmp 67]) rfl ?_); at_builtin; have hgd_ := G8; (refine Kd.R_append_rows k50 (w0 := w0) w0.heap.size rfl (.tmp 65) (.tmp 67) 29 50 (.agg #[.int .i64 0, .int .i64 0, .slice none 0 0, .int .u32 0, .int .i64 0, .string ⟨#[]⟩, .int .u64 0, .int .u64 0, .bool false]) 96 rfl Tryd.underlying29 info_ask rfl (by decide) (by omega) u8 (acc.map cvA) (X.1.map cvA) A4 _ c4 (fun _ => True) (fun k => True ∧ some k ≠ u8.ownBlock) rfl rfl HO.out (R_MC HN.out (Kd.R_typed HO.out) (by decide)) (fun _ _ h => h) (fun _ h => h) (fun _ _ => trivial) HB.out HB.out.size ?aL ?_; (case aL => simp only [List.length_map]; have := HNA.out; omega); intro v1 w11 ho hb hg hat; replace HI := Aside0.mk (HI.out.grown hg (Kd.R_typed HO.out)); replace HW := Aside0.mk (R_two HW.out (Kd.R_typed HO.out) (fun k hk e => by have := HWL.out k hk; have := HOL.out k e; omega) (by decide) hg); have HOL2 := Aside0.mk (show ∀ k, v1.ownBlock = some k → w5.heap.size ≤ k from fun k e => hat.elim (fun h => HOL.out k (h ▸ e)) (fun ⟨b_, h1, h2⟩ => by rw [h1] at e; injection e with e; rw [← e]; exact Nat.le_trans HS.out h2)); replace HS := Aside0.mk (Nat.le_trans HS.out hg.size); replace HO := Aside0.mk ho; replace HB := Aside0.mk hb; clear HOL HN ho hb hg hat G8 hgd_)))
        go_roundg (l0.length - e_)
        case measure => have := HQ.out; have := HE.out; omega
        case rel => exact ⟨i + 1, e_, acc ++ X.1, X.2, own3, congrArg (Value.int .i64) (by first | exact hwi.trans (Int.natCast_succ i).symm | exact (Int.natCast_succ i).symm), rfl, ⟨by have := HE.out; omega⟩, ⟨by have := HQI.out; have := HE.out; omega⟩, HP2, HI, HW, ⟨by rw [List.map_append]; exact HO.out⟩, HOL2, HS, HB⟩
    · have ha1 : decide ((at_ : Int) < (l0.length : Int)) = false := decide_eq_false (by omega)
      have haN : decide (at_ < l0.length) = false := decide_eq_false ha
      have hWA : XW = acc := by
        have h1 := HP.out.whole (by rw [List.length_take]; omega)
        rw [List.take_of_length_le (by omega)] at h1
        rw [HXW.out, ← h1]
        rfl
      have hls : XW.length ≤ 65536 := by
        rw [HXW.out]
        have := all_len 30000 ⟨l0, 0, false, none⟩ (good0 l0).ok
        have e : (CS.mk l0 0 false none).b.length = l0.length := rfl
        omega
      have hoks : ∀ a ∈ XW, AskOk a := by
        rw [HXW.out]
        exact (all_good 30000 _ (good0 l0)).2
      obtain ⟨A8, c8, rfl⟩ := Kd.R_slice HO.out
      have HO := Aside0.mk (R_len HO.out)
      rw [List.length_map]
      have HWA := Aside0.mk hWA
      have HLS := Aside0.mk (And.intro hls hoks)
      clear HQ HQI HP HI hWA hls hoks
      go_wp2_with (first | (go_at_call 12; ((with_reducible refine (sames_calls XW acc HWA.out A3 A8 _ _ c3 c8 (List.length_map _).symm (List.length_map _).symm (R_rd HW.out).2 (R_rd HW.out).1 (R_rd HO.out).2 (R_rd HO.out).1 HLS.out.1 HLS.out.2).mono ?_); rintro e_ w12 ⟨rfl, hb⟩; replace HB := Aside0.mk (below_step HB.out hb); clear hb)))
      go_ret
      exact ⟨rfl, HB.out⟩
end Go.Proofs.YtginfaencjmhgaaDoor.P
