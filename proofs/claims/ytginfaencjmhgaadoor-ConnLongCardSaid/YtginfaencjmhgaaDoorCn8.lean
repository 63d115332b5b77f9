/- ConnLong's walk. Conditions: the readings that each theorem names. -/
import Derived.Test.YtginfaencjmhgaaDoorCnt
namespace Go.Proofs.YtginfaencjmhgaaDoor.P
open Go.RowKit Go.Proofs.YtginfaencjmhgaaDoorW.PrintWords Go.Proofs.YtginfaencjmhgaaDoorW.PrintLast Go.Proofs.YtginfaencjmhgaaDoorW.PrintMore Go.Proofs.YtginfaencjmhgaaDoor.Pl Go.Proofs.YtginfaencjmhgaaDoor.Lim
set_option linter.unusedVariables false
set_option linter.unusedSimpArgs false
theorem one_F (W : World) (b : Int) (fr : Nat × Nat) : kB.C (W.alloc (.cells #[.int .u8 b] 5 fr)) (some ⟨W.heap.size, 0, none⟩) 1 [b] := lit_C W [b] fr (by show 1 ≤ 1000; decide)

set_option maxHeartbeats 8000000 in
set_option maxRecDepth 100000 in
theorem cl_law (w0 : World) (a0 a1 : Int) (ha : 0 ≤ a1 ∧ a1 < 256) (A2 : Option Addr) (c2 : Nat) (l2 : List Int) (hr2 : kB.C w0 A2 l2.length l2) (hL : LdS w0) :
    Calls Tryd.prog 5 #[.int .i64 a0, .int .u8 a1, .slice A2 l2.length c2] w0 fun e w' => e = .returned (.bool true) ∧ Below w0.heap.size w0 w' := by
  have HL := Aside0.mk hL
  clear hL
  by_cases hlen : (l2.length : Int) > 2000
  · have hd : decide ((l2.length : Int) > 2000) = true := decide_eq_true hlen
    have hd2 : decide ((2000 : Int) < (l2.length : Int)) = true := decide_eq_true hlen
    go_enter Tryd.func5, Tryd.ntmps5
    go_wp2_with (first | (go_at_call 8; ((with_reducible refine (works_calls w0 HL.out).mono ?_); rintro e_ w1 ⟨rfl, hb⟩; have HB := Aside0.mk hb; clear hb)))
    go_ret
    exact ⟨rfl, HB.out⟩
  have hd : decide ((l2.length : Int) > 2000) = false := decide_eq_false hlen
  have hd2 : decide ((2000 : Int) < (l2.length : Int)) = false := decide_eq_false hlen
  by_cases hf : a1 = 10
  · have hf1 : (a1 == 10) = true := beq_iff_eq.mpr hf
    go_enter Tryd.func5, Tryd.ntmps5
    go_wp2_with (first | (go_at_call 8; ((with_reducible refine (works_calls w0 HL.out).mono ?_); rintro e_ w1 ⟨rfl, hb⟩; have HB := Aside0.mk hb; clear hb)))
    go_ret
    exact ⟨rfl, HB.out⟩
  have hf1 : (a1 == 10) = false := beq_eq_false_iff_ne.mpr hf
  obtain ⟨n, hn, hn1, hn2⟩ := mod_n a0 1000 163 (by decide) (by decide) (by decide)
  have hn : wrap64 (163 + wrap64 ((IntKind.u64.wrap a0).tmod 1000)) = (n : Int) := hn
  have G1 := trivial
  go_enter Tryd.func5, Tryd.ntmps5
  go_wp2_with (first | (go_at_call 8; ((with_reducible refine (works_calls w0 HL.out).mono ?_); rintro e_ w1 ⟨rfl, hb⟩; have HB := Aside0.mk hb; clear hb)) | (go_at_call 9; have hgd_ := G1; ((with_reducible refine (CRd.new w0 w1 HB.out).mono ?_); rintro e_ w2 ⟨gc, rfl, hI, hg, hB, hb⟩; have HI := Aside0.mk hI; replace HB := Aside0.mk hB; have G2 := trivial; clear hI hg hB hb G1 hgd_)) | (go_at_call 9; have hgd_ := G2; ((with_reducible refine (CRd.new w0 w2 HB.out).mono ?_); rintro e_ w3 ⟨gd, rfl, hI, hg, hB, hb⟩; have HT := Aside0.mk (Two.begin HI.out hb hI hg); replace HB := Aside0.mk hB; have G3 := trivial; clear hI hg hB hb G2 hgd_ HI)) | ((with_reducible refine gate_dst (N := 32) rfl ?_); (refine Kd.R_make kB (w0 := w0) w0.heap.size 5 rfl rfl 22 (.tmp 31) (.tmp 31) rfl (n : Int) rfl rfl Tryd.underlying22 (.int .u8 0) 1 info_u8 rfl (by decide) (by decide) (0 : Int) (okp := fun _ => False) (ok := fun _ => True) rfl (fun _ _ => trivial) trivial (by omega) (by simp only [Int.toNat_natCast]; omega) HB.out HB.out.size ?_; intro v1 w4 hr hb hg hat; obtain ⟨gb, hgb, hge⟩ := hat; obtain ⟨cb, hcb⟩ := own_shape hr hgb; rw [show (List.replicate (n : Int).toNat (0 : Int)).length = n by simp] at hcb; subst hcb; rw [Int.toNat_natCast] at hr; have HNC := Aside0.mk (show ¬ gb = gc from fun e => by have := HT.out.c.own_lt gb e; omega); have HND := Aside0.mk (show ¬ gb = gd from fun e => by have := HT.out.d.own_lt gb e; omega); replace HT := Aside0.mk (HT.out.below (row_grows (v := .slice none 0 0) hg)); have HR := Aside0.mk hr; replace HB := Aside0.mk hb; clear hr hb hg hgb hge G3)))
  clear hd hd2 hf1 hn
  have HN := Aside0.mk (And.intro hn1 hn2)
  have hfill := fill_no a1 ha.1 ha.2 hf n
  have hfill : ixb (List.replicate n a1) < 0 := by rw [hfill]; decide
  go_loopg [10] n (fun q v10 wi => ∃ (i : Nat), v10 = .int .i64 (i : Int) ∧ Aside0 (q + i = n) ∧ Aside0 (Two w0.heap.size wi (fun k => k = gc) gc s0 (fun k => k = gd) gd s0) ∧ Aside0 (kB.R 5 wi w0.heap.size (fun _ => True) (.slice (some ⟨gb, 0, none⟩) n cb) (List.replicate i a1 ++ List.replicate (n - i) 0)) ∧ Aside0 (Below w0.heap.size w0 wi))
  case atStart => exact ⟨0, rfl, ⟨rfl⟩, HT, ⟨by simpa using HR.out⟩, HB⟩
  case round =>
    clear HT HR HB
    obtain ⟨i, rfl, HQ, HT, HR, HB⟩ := hrel
    by_cases hi : i < n
    · have hi1 : decide ((i : Int) < (n : Int)) = true := decide_eq_true (by omega)
      have hiN : decide (i < n) = true := decide_eq_true hi
      have hwi : wrap64 ((i : Int) + 1) = (i : Int) + 1 := by unfold wrap64; omega
      have p0 : 0 ≤ (i : Int) := by omega
      have q0 : (i : Int) < (n : Int) := by omega
      obtain ⟨hx, hfz⟩ := Kd.R_celln (0 : Int) HR.out (i : Int) p0 q0
      replace p0 := eq_true p0
      replace q0 := eq_true q0
      simp only [Int.toNat_natCast] at hx hfz
      go_wp2
      go_roundg (n - (i + 1))
      case measure => have := HQ.out; omega
      case rel =>
        have hp := Kd.R_putn HR.out (i : Int) a1
        rw [Int.toNat_natCast, rep_set a1 i n hi] at hp
        exact ⟨i + 1, congrArg (Value.int .i64) (show ((i : Int) + 1) = ((i + 1 : Nat) : Int) by omega), ⟨by omega⟩, ⟨HT.out.row (row_kept' HR.out i (.int .u8 a1)) HNC.out HND.out⟩, ⟨hp⟩, ⟨below_set HB.out (Kd.R_base HR.out gb rfl)⟩⟩
    · have hi1 : decide ((i : Int) < (n : Int)) = false := decide_eq_false (by omega)
      have hiN : decide (i < n) = false := decide_eq_false hi
      obtain rfl : n = i := by have := HQ.out; omega
      have HC := Aside0.mk (show kB.C wr (some ⟨gb, 0, none⟩) n (List.replicate n a1) by have h := (Kd.R_reads' HR.out).2.2; rw [Nat.sub_self, List.replicate_zero, List.append_nil] at h; rwa [List.length_replicate] at h)
      have hll : l2.length ≤ 2000 := by omega
      have hls : (allV 30000 ⟨10 :: l2, 0, true, none⟩).1.length ≤ 65536 := by
        rw [all_eqv (long_three l2) 30000]
        have := all_len 30000 ⟨l2, 0, false, none⟩ (good0 l2).ok
        have e : (CS.mk l2 0 false none).b.length = l2.length := rfl
        omega
      have hoks : ∀ a ∈ (allV 30000 ⟨10 :: l2, 0, true, none⟩).1, AskOk a := by
        rw [all_eqv (long_three l2) 30000]
        exact (all_good 30000 _ (good0 l2)).2
      have hF1 : s0.b.length + n ≤ 65536 := by show 0 + n ≤ _; omega
      have hF2 : (CS.mk [] 0 true none).b.length + 1 ≤ 65536 := by show 0 + 1 ≤ _; omega
      have hF3 : (CS.mk [10] 0 true none).b.length + l2.length ≤ 65536 := by show 1 + l2.length ≤ _; omega
      have hF4 : s0.b.length + l2.length ≤ 65536 := by show 0 + l2.length ≤ _; omega
      have HLS := Aside0.mk (And.intro hls hoks)
      have HX3 := Aside0.mk (all_eqv (long_three l2) 30000)
      obtain ⟨X1, HX1⟩ : ∃ X, Aside0 (X = allV 30000 ⟨10 :: l2, 0, true, none⟩) := ⟨_, ⟨rfl⟩⟩
      obtain ⟨X2, HX2⟩ : ∃ X, Aside0 (X = allV 30000 ⟨l2, 0, false, none⟩) := ⟨_, ⟨rfl⟩⟩
      rw [← HX1.out, ← HX2.out] at HX3
      rw [← HX1.out] at HLS
      have HFL := Aside0.mk hfill
      have HF3 := Aside0.mk hF3
      have G4 := trivial
      clear HQ HR hls hoks hfill hll hiN hF3
      go_wp2_with (first | (go_at_call 10; have hgd_ := G4; ((with_reducible refine (CRd.feed w0 _ _ gc s0 _ cb n (List.replicate n a1) List.length_replicate HT.out.c HB.out HC.out hF1).mono ?_); rintro e_ w5 ⟨rfl, oc1, hI, hO, hk, hB⟩; replace hI : CRd w0.heap.size w5 oc1 gc ⟨List.replicate n a1, 0, false, none⟩ := hI; replace HT := Aside0.mk (HT.out.stepL hI hO hk); replace HB := Aside0.mk hB; have G5 := trivial; clear hI hO hk hB HC HNC HND G4 hgd_)) | (go_at_call 13; have hgd_ := G5; (have hv_ := CRd.next w0 w5 oc1 gc ⟨List.replicate n a1, 0, false, none⟩ HT.out.c HB.out (good0 _) (by simp only [List.length_replicate]; have := HN.out; omega) HL.out; rw [long_one _ HFL.out (by simp only [List.length_replicate]; have := HN.out; omega)] at hv_; dsimp only [askC, zA] at hv_; (with_reducible refine hv_.mono ?_); rintro e_ w6 ⟨kv', oc2, rfl, hI, hO, hR, hk, hB⟩; obtain ⟨A3, c3, rfl⟩ := Kd.R_slice hR; replace HT := Aside0.mk (HT.out.stepL hI hO hk); replace HB := Aside0.mk hB; have G6 := trivial; clear hv_ hI hO hR hk hB G5 hgd_)) | ((with_reducible refine gate_dst (N := 11) rfl ?_); (refine bE 11 #[.int .i64 0, .int .i64 0, .slice none 0 0, .int .u32 0, .int .i64 0, .string ⟨#[]⟩, .int .u64 0, .int .u64 0, .bool false] 39 rfl rfl ?_; intro gx hgx w7 hbox hb; have BX := Aside0.mk hbox; have BXg := Aside0.mk (show w0.heap.size ≤ gx by rw [hgx]; exact HB.out.size); replace HT := Aside0.mk (HT.out.below hb); replace HB := Aside0.mk (below_step HB.out hb); obtain ⟨hcx, hfx⟩ := d9 BX; clear hbox hb hgx)) | (go_at_call 13; have hgd_ := G6; (obtain ⟨w8, hw_⟩ : ∃ w_, w_ = (((((((((w7.setCell ⟨gx, 0, none⟩ (.int .i64 9)).setCell ⟨gx, 1, none⟩ (.int .i64 0)).setCell ⟨gx, 2, none⟩ (.slice A3 0 c3)).setCell ⟨gx, 3, none⟩ (.int .u32 0)).setCell ⟨gx, 4, none⟩ (.int .i64 0)).setCell ⟨gx, 5, none⟩ (.string ⟨#[]⟩)).setCell ⟨gx, 6, none⟩ (.int .u64 0)).setCell ⟨gx, 7, none⟩ (.int .u64 0)).setCell ⟨gx, 8, none⟩ (.bool false)) := ⟨_, rfl⟩; have kb_ : KeepBut w7 w8 gx none := hw_ ▸ (by with_reducible repeat (first | exact KeepBut.refl _ _ _ | refine KeepBut.set_ ?_ _ _)); have hb_ : Below w0.heap.size w0 w8 := hw_ ▸ bH HB.out; have bx_ : w8.heap[gx]? = some (.cells #[.int .i64 9, .int .i64 0, .slice A3 0 c3, .int .u32 0, .int .i64 0, .string ⟨#[]⟩, .int .u64 0, .int .u64 0, .bool false] 39 (0, 0)) := (by rw [hw_]; exact bV BX.out); replace HT := Aside0.mk (HT.out.far BX.out (by decide) kb_); replace HB := Aside0.mk hb_; rw [← hw_]; clear hw_ hb_ hcx hfx; replace BX := Aside0.mk bx_; clear kb_ bx_ BXg; have hv_ := CRd.next w0 w8 oc2 gc ⟨(List.replicate n a1).drop 161, 0, true, none⟩ HT.out.c HB.out ⟨Int.le_refl _, by show (0 : Int) ≤ _; decide, fun p hp => by cases hp⟩ (by simp only [List.length_drop, List.length_replicate]; omega) HL.out; rw [long_two _ (ixb_none _ _ HFL.out)] at hv_; dsimp only [askC, zA] at hv_; (with_reducible refine hv_.mono ?_); rintro e_ w9 ⟨kv', oc3, rfl, hI, hO, hR, hk, hB⟩; obtain ⟨A4, c4, rfl⟩ := Kd.R_slice hR; replace BX := Aside0.mk (hk.blk BX.out (by decide)); replace HT := Aside0.mk (HT.out.stepL hI hO hk); replace HB := Aside0.mk hB; have G7 := trivial; clear hv_ hI hO hR hk hB G6 hgd_)) | ((with_reducible refine gate_dst (N := 13) rfl ?_); (refine bE 13 #[.int .i64 0, .int .i64 0, .slice none 0 0, .int .u32 0, .int .i64 0, .string ⟨#[]⟩, .int .u64 0, .int .u64 0, .bool false] 39 rfl rfl ?_; intro gy hgx w10 hbox hb; have BY := Aside0.mk hbox; have BYg := Aside0.mk (show w0.heap.size ≤ gy by rw [hgx]; exact HB.out.size); replace HT := Aside0.mk (HT.out.below hb); replace HB := Aside0.mk (below_step HB.out hb); have hnex := Aside0.mk (show gx ≠ gy from fun e => by have := blk_lt BX.out; omega); replace BX := Aside0.mk (blk_below BX.out hb); obtain ⟨hcx, hfx⟩ := d9 BY; clear hbox hb hgx)) | ((with_reducible refine gate_dst (N := 56) rfl ?_); have hgd_ := G7; (obtain ⟨w11, hw_⟩ : ∃ w_, w_ = (((((((((w10.setCell ⟨gy, 0, none⟩ (.int .i64 0)).setCell ⟨gy, 1, none⟩ (.int .i64 0)).setCell ⟨gy, 2, none⟩ (.slice A4 0 c4)).setCell ⟨gy, 3, none⟩ (.int .u32 0)).setCell ⟨gy, 4, none⟩ (.int .i64 0)).setCell ⟨gy, 5, none⟩ (.string ⟨#[]⟩)).setCell ⟨gy, 6, none⟩ (.int .u64 0)).setCell ⟨gy, 7, none⟩ (.int .u64 0)).setCell ⟨gy, 8, none⟩ (.bool false)) := ⟨_, rfl⟩; have kb_ : KeepBut w10 w11 gy none := hw_ ▸ (by with_reducible repeat (first | exact KeepBut.refl _ _ _ | refine KeepBut.set_ ?_ _ _)); have hb_ : Below w0.heap.size w0 w11 := hw_ ▸ bH HB.out; have bx_ : w11.heap[gy]? = some (.cells #[.int .i64 0, .int .i64 0, .slice A4 0 c4, .int .u32 0, .int .i64 0, .string ⟨#[]⟩, .int .u64 0, .int .u64 0, .bool false] 39 (0, 0)) := (by rw [hw_]; exact bV BY.out); replace HT := Aside0.mk (HT.out.far BY.out (by decide) kb_); replace HB := Aside0.mk hb_; rw [← hw_]; clear hw_ hb_ hcx hfx; replace BX := Aside0.mk ((kb_.2 gx (blk_lt BX.out) hnex.out (by simp)).trans BX.out); have hcv := Lib.run_convert_bytes_const (P := Tryd.prog) w11 22 5 #[.int .u8 10] 1 1 Tryd.underlying22 Tryd.underlying5; have G7b := trivial; clear kb_ bx_ BYg BY hnex G7 hgd_)) | (go_at_call 10; have hgd_ := G7b; ((with_reducible refine (CRd.feed w0 _ oc3 gc ⟨[], 0, true, none⟩ _ 1 1 [10] rfl (HT.out.c.below (below_alloc (Below.refl w11.heap.size w11) (.cells #[.int .u8 10] 5 (1, 2)))) (below_alloc HB.out (.cells #[.int .u8 10] 5 (1, 2))) (one_F w11 10 (1, 2)) hF2).mono ?_); rintro e_ w12 ⟨rfl, oc4, hI, hO, hk, hB⟩; replace hI : CRd w0.heap.size w12 oc4 gc ⟨[10], 0, true, none⟩ := hI; replace BX := Aside0.mk (hk.blk (blk_below BX.out (below_alloc (Below.refl w11.heap.size w11) (.cells #[.int .u8 10] 5 (1, 2)))) (by decide)); replace HT := Aside0.mk (HT.out.below (below_alloc (Below.refl w11.heap.size w11) (.cells #[.int .u8 10] 5 (1, 2)))); replace HT := Aside0.mk (HT.out.stepL hI hO hk); replace HB := Aside0.mk hB; have G8 := trivial; clear hcv hI hO hk hB G7b hgd_)) | ((with_reducible refine gate_builtin (b := .append) (xs := #[.tmp 60, .tmp 61]) rfl ?_); at_builtin; have hgd_ := G8; (refine fr_append (w0 := w0) w0.heap.size rfl (.tmp 60) (.tmp 61) 22 5 (.int .u8 0) 1 rfl Tryd.underlying22 info_u8 rfl (by decide) (.slice (some ⟨w12.heap.size, 0, none⟩) 0 0) [] l2 _ _ _ (fun k => w12.heap.size ≤ k) rfl rfl (nil_Q w12 _ _ HB.out.size (Nat.le_refl _)) (Kd.C_below hr2 (below_alloc HB.out _)) (fun k hk => above_nil hk) (below_alloc HB.out _) (above_nil2 HB.out.size) (by simp only [List.length_nil]; omega) ?_; intro v1 w13 hq1 hb1 hg1 hat1; rw [List.nil_append] at hq1; obtain ⟨B1A, B1c, rfl, hc1⟩ := Kd.Q_slice hq1; have HC1 := Aside0.mk (Kd.Q_reads' hq1).2.2; replace BX := Aside0.mk (blk_below BX.out (below_nil hg1)); replace HT := Aside0.mk (HT.out.below (below_nil hg1)); replace HB := Aside0.mk hb1; clear hq1 hb1 hg1 hat1 hc1 hgd_)) | (go_at_call 10; have hgd_ := G8; ((with_reducible refine (CRd.feed w0 _ _ gc ⟨[10], 0, true, none⟩ B1A B1c l2.length l2 rfl HT.out.c HB.out HC1.out HF3.out).mono ?_); rintro e_ w14 ⟨rfl, oc5, hI, hO, hk, hB⟩; replace hI : CRd w0.heap.size w14 oc5 gc ⟨10 :: l2, 0, true, none⟩ := hI; replace BX := Aside0.mk (hk.blk BX.out (by decide)); replace HT := Aside0.mk (HT.out.stepL hI hO hk); replace HB := Aside0.mk hB; have G9 := trivial; clear hI hO hk hB HC1 G8 hgd_)) | ((with_reducible refine gate_builtin (b := .append) (xs := #[.tmp 65, .tmp 66]) rfl ?_); at_builtin; have hgd_ := G9; (refine fr_append (w0 := w0) w0.heap.size rfl (.tmp 65) (.tmp 66) 22 5 (.int .u8 0) 1 rfl Tryd.underlying22 info_u8 rfl (by decide) (.slice (some ⟨w14.heap.size, 0, none⟩) 0 0) [] l2 _ _ _ (fun k => w14.heap.size ≤ k) rfl rfl (nil_Q w14 _ _ HB.out.size (Nat.le_refl _)) (Kd.C_below hr2 (below_alloc HB.out _)) (fun k hk => above_nil hk) (below_alloc HB.out _) (above_nil2 HB.out.size) (by simp only [List.length_nil]; omega) ?_; intro v1 w15 hq1 hb1 hg1 hat1; rw [List.nil_append] at hq1; obtain ⟨B2A, B2c, rfl, hc1⟩ := Kd.Q_slice hq1; have HC2 := Aside0.mk (Kd.Q_reads' hq1).2.2; replace BX := Aside0.mk (blk_below BX.out (below_nil hg1)); replace HT := Aside0.mk (HT.out.below (below_nil hg1)); replace HB := Aside0.mk hb1; clear hq1 hb1 hg1 hat1 hc1 hgd_)) | (go_at_call 10; have hgd_ := G9; ((with_reducible refine (CRd.feed w0 _ _ gd s0 B2A B2c l2.length l2 rfl HT.out.d HB.out HC2.out hF4).mono ?_); rintro e_ w16 ⟨rfl, od1, hI, hO, hk, hB⟩; replace hI : CRd w0.heap.size w16 od1 gd ⟨l2, 0, false, none⟩ := hI; replace BX := Aside0.mk (hk.blk BX.out (by decide)); replace HT := Aside0.mk (HT.out.stepR hI hO hk); replace HB := Aside0.mk hB; obtain ⟨hcx, hfx⟩ := d9 BX; have G10 := trivial; clear hI hO hk hB HC2 G9 hgd_)) | (go_at_call 11; have hgd_ := G10; (have hv_ := CRd.all w0 w16 oc5 gc ⟨10 :: l2, 0, true, none⟩ HT.out.c HB.out ⟨Int.le_refl _, by show (0 : Int) ≤ _; decide, fun p hp => by cases hp⟩ (by simp only [List.length_cons]; omega) HL.out; rw [← HX1.out] at hv_; (with_reducible refine hv_.mono ?_); rintro e_ w17 ⟨v, oc6, rfl, hI, hO, hR, hk, hB⟩; obtain ⟨A5, c5, rfl⟩ := Kd.R_slice hR; rw [List.length_map]; have HR5 := Aside0.mk (R_len hR); replace HT := Aside0.mk (HT.out.stepL hI hO hk); replace HB := Aside0.mk hB; have G11 := trivial; clear hv_ hI hO hR hk hB G10 hgd_ hcx hfx BX)) | (go_at_call 11; have hgd_ := G11; (have hv_ := CRd.all w0 w17 od1 gd ⟨l2, 0, false, none⟩ HT.out.d HB.out (good0 _) (by show l2.length ≤ _; omega) HL.out; rw [← HX2.out] at hv_; (with_reducible refine hv_.mono ?_); rintro e_ w18 ⟨v, od2, rfl, hI, hO, hR, hk, hB⟩; obtain ⟨A6, c6, rfl⟩ := Kd.R_slice hR; rw [List.length_map]; have HR6 := Aside0.mk (R_len hR); replace HR5 := Aside0.mk (R_keptC HR5.out hk (by decide)); replace HB := Aside0.mk hB; clear hv_ hI hO hR hk hB G11 hgd_ HT)) | (go_at_call 12; ((with_reducible refine (sames_calls X1.1 X2.1 HX3.out A5 A6 _ _ c5 c6 (List.length_map _).symm (List.length_map _).symm (R_rd HR5.out).2 (R_rd HR5.out).1 (R_rd HR6.out).2 (R_rd HR6.out).1 HLS.out.1 HLS.out.2).mono ?_); rintro e_ w19 ⟨rfl, hb⟩; replace HB := Aside0.mk (below_step HB.out hb); clear hb HR5 HR6)))
      go_ret
      exact ⟨rfl, HB.out⟩
end Go.Proofs.YtginfaencjmhgaaDoor.P
