/- FramePieces' walk. Conditions: the readings that each theorem names. -/
import Derived.Test.YtdepkgikdmlgiaaFrp
namespace Go.Proofs.Ytdepkgikdmlgiaa.P
open Go.RowKit Go.Proofs.YtdepkgikdmlgiaaW.PrintWords Go.Proofs.YtdepkgikdmlgiaaW.PrintLast Go.Proofs.YtdepkgikdmlgiaaW.PrintMore
set_option linter.unusedVariables false
set_option linter.unusedSimpArgs false
set_option maxHeartbeats 4000000 in
set_option maxRecDepth 100000 in
theorem fp_law (kw : Nat) (w : World) (A0 : Option Addr) (c0 : Nat) (l0 : List S26) (A1 : Option Addr) (c1 : Nat) (l1 : List Int) (hr0 : Kd.C k26 w A0 l0.length l0) (hc0 : l0.length ≤ c0) (hr1 : Kd.C (Kd.int .i64) w A1 l1.length l1) (hc1 : l1.length ≤ c1) (hf : ∀ x ∈ l0, fOk x) (hw : tallboylaw29_works.f kw = some true) :
    Calls Try.prog 9 #[.slice A0 l0.length c0, .slice A1 l1.length c1] w fun e w' => e = .returned (.bool true) ∧ Below w.heap.size w w' := by
  have HR := Aside0.mk hr0
  have HR1 := Aside0.mk hr1
  have HF := Aside0.mk hf
  have HW := Aside0.mk hw
  obtain ⟨n0, hn0⟩ : ∃ n0, n0 = l0.length := ⟨_, rfl⟩
  obtain ⟨n1, hn1⟩ : ∃ n1, n1 = l1.length := ⟨_, rfl⟩
  rw [← hn0] at hc0 ⊢
  rw [← hn1] at hc1 ⊢
  have HN0 := Aside0.mk hn0
  have HN1 := Aside0.mk hn1
  have HB := Aside0.mk (Below.refl w.heap.size w)
  clear hr0 hr1 hf hw hn0 hn1
  go_enter Try.func9, Try.ntmps9
  go_wp2_with (first | (go_at_call 36; (with_reducible refine (tallboylaw29_works.calls kw true _ HW.out).mono ?_); rintro e w1 ⟨rfl, hb⟩; replace HB := Aside0.mk (below_step HB.out hb); clear hb))
  go_loopg [5, 6, 7] n0 (fun q v5 v6 v7 wr => ∃ (i : Nat) (s : ByteArray) (L : List (S26 × List Int)), v5 = .string s ∧ v7 = .int .i64 (i : Int) ∧ Aside0 (q + i = n0 ∧ i ≤ 10) ∧ Aside0 (L.length ≤ i ∧ s.size ≤ 100024) ∧ Aside0 (Pl.bytesL s = Pl.fl L) ∧ Aside0 (∀ x ∈ L, Pl.IsP x.1 x.2) ∧ Aside0 (Kd.R k26 26 wr w.heap.size (fun _ => True) v6 (L.map Prod.fst)) ∧ Aside0 (Below w.heap.size w wr))
  case atStart => exact ⟨0, ⟨#[]⟩, [], rfl, rfl, ⟨by omega⟩, ⟨by decide⟩, ⟨rfl⟩, ⟨by simp⟩, ⟨Kd.R_nil _ _ _ _ _⟩, HB⟩
  case round =>
    clear HB
    obtain ⟨i, s, L, rfl, rfl, HQ, HL, HS, HP, HO, HB⟩ := hrel
    by_cases h12 : i < n0 ∧ i < 10
    · obtain ⟨h1, h2⟩ := h12
      obtain ⟨qo, hqo⟩ : ∃ qo, gk = qo + 1 := ⟨n0 - i - 1, by have := HQ.out; omega⟩
      subst hqo
      have hd1 : decide ((i : Int) < (n0 : Int)) = true := decide_eq_true (by omega)
      have hd1b : decide (i < n0) = true := decide_eq_true h1
      have hd2 : decide ((i : Int) < 10) = true := decide_eq_true (by omega)
      have hd2b : decide (i < 10) = true := decide_eq_true h2
      have hwi : wrap64 ((i : Int) + 1) = ((i + 1 : Nat) : Int) := by unfold wrap64; omega
      have hi0 : (0 ≤ (i : Int)) = True := eq_true (by omega)
      have hi1 : ((i : Int) < (n0 : Int)) = True := eq_true (by omega)
      have hi2 : (i < n0) = True := eq_true h1
      obtain ⟨ad, rfl, hE⟩ := at_fr (by have := HR.out; rwa [← HN0.out] at this) i h1
      obtain ⟨x, hx⟩ : ∃ x, x = l0.getD i z26 := ⟨_, rfl⟩
      rw [← hx] at hE
      have HX := Aside0.mk (show fOk x by
        rw [hx]
        exact HF.out _ (getD_mem (by rw [← HN0.out]; exact h1)))
      have HE := Aside0.mk hE
      have H15 := Aside0.mk (And.intro h1 h2)
      obtain ⟨g, hg, hgs⟩ := great_tot x
      have HG := Aside0.mk hg
      have HGS := Aside0.mk hgs
      obtain ⟨t, er, hpk, his, hsz⟩ := Pl.p_of x HX.out
      have HPK := Aside0.mk hpk
      have HIS := Aside0.mk his
      have HSZ := Aside0.mk hsz
      clear hx hE hg hgs h1 h2 hpk his hsz
      obtain ⟨e0, e1, e2, e3, e4, e5, e6, e7⟩ := HE.out _ HB.out
      cases g with
      | true =>
        clear hwi
        go_wp2_with (first | (go_at_call 11; ((with_reducible refine (tallboylaw29_Great.calls x.f0 x.f1 x.f2 x.f3 x.f4 x.f5 x.f6 x.f7 true _ HG.out).mono ?_); rintro e w3 ⟨rfl, hb⟩; replace HO := Aside0.mk (Kd.R_below HO.out hb); replace HB := Aside0.mk (below_step HB.out hb); clear hb; obtain ⟨e0, e1, e2, e3, e4, e5, e6, e7⟩ := HE.out _ HB.out)))
        go_ret
        exact ⟨rfl, HB.out⟩
      | false =>
        have HSS := Aside0.mk (show t.size ≤ 60024 by have := HGS.out rfl; have := HSZ.out; omega)
        clear HSZ HGS
        by_cases hbig : s.size > 40000
        · have hb1 : decide (40000 < s.size) = true := decide_eq_true hbig
          have hb2 : decide ((40000 : Int) < (s.size : Int)) = true := decide_eq_true (by omega)
          clear hbig hwi
          go_wp2_with (first | (go_at_call 11; ((with_reducible refine (tallboylaw29_Great.calls x.f0 x.f1 x.f2 x.f3 x.f4 x.f5 x.f6 x.f7 false _ HG.out).mono ?_); rintro e w3 ⟨rfl, hb⟩; replace HO := Aside0.mk (Kd.R_below HO.out hb); replace HB := Aside0.mk (below_step HB.out hb); clear hb; obtain ⟨e0, e1, e2, e3, e4, e5, e6, e7⟩ := HE.out _ HB.out)))
          go_ret
          exact ⟨rfl, HB.out⟩
        · have hb1 : decide (40000 < s.size) = false := decide_eq_false hbig
          have hb2 : decide ((40000 : Int) < (s.size : Int)) = false := decide_eq_false (by omega)
          have HBG := Aside0.mk hbig
          clear hbig
          by_cases he : er = 0
          · subst he
            have HPP := Aside0.mk (HIS.out rfl)
            clear HIS
            have hst : (s.size + t.size ≤ 9223372036854775807) = True := eq_true (by have := HBG.out; have := HSS.out; omega)
            have hst2 : (9223372036854775807 < s.size + t.size) = False := eq_false (by have := HBG.out; have := HSS.out; omega)
            have hst3 : (s ++ t).size ≤ 9223372036854775807 := by have := HBG.out; have := HSS.out; rw [ByteArray.size_append]; omega
            go_wp2_with (first | (go_at_call 11; ((with_reducible refine (tallboylaw29_Great.calls x.f0 x.f1 x.f2 x.f3 x.f4 x.f5 x.f6 x.f7 false _ HG.out).mono ?_); rintro e w3 ⟨rfl, hb⟩; replace HO := Aside0.mk (Kd.R_below HO.out hb); replace HB := Aside0.mk (below_step HB.out hb); clear hb; obtain ⟨e0, e1, e2, e3, e4, e5, e6, e7⟩ := HE.out _ HB.out)) | (go_at_call 13; ((with_reducible refine (tallboylaw29_To.calls x.f0 x.f1 x.f2 x.f3 x.f4 x.f5 x.f6 x.f7 x.f0 x.f1 x.f2 x.f3 x.f4 x.f5 x.f6 x.f7 _ rfl).mono ?_); rintro e w4 ⟨rfl, hb⟩; replace HO := Aside0.mk (Kd.R_below HO.out hb); replace HB := Aside0.mk (below_step HB.out hb); clear hb)) | (go_at_call 12; ((with_reducible refine (frame_Pack.calls x.f0 x.f1 x.f2 x.f3 x.f4 x.f5 x.f6 x.f7 t 0 _ HPK.out).mono ?_); rintro e w5 ⟨rfl, hb⟩; replace HO := Aside0.mk (Kd.R_below HO.out hb); replace HB := Aside0.mk (below_step HB.out hb); clear hb; obtain ⟨e0, e1, e2, e3, e4, e5, e6, e7⟩ := HE.out _ HB.out)) | ((with_reducible refine gate_builtin (b := .append) (xs := #[.tmp 54, .tmp 59]) rfl ?_); at_builtin; (refine Kd.R_append k26 (w0 := w) w.heap.size rfl (.tmp 54) (.tmp 59) 85 26 (.agg #[.bool false, .int .u8 0, .int .u16 0, .int .u32 0, .int .u64 0, .string ⟨#[]⟩, .string ⟨#[]⟩, .string ⟨#[]⟩]) 64 rfl Try.underlying85 info26 rfl (by decide) (by omega) u6 (L.map Prod.fst) x [.bool x.f0, .int .u8 x.f1, .int .u16 x.f2, .int .u32 x.f3, .int .u64 x.f4, .string x.f5, .string x.f6, .string x.f7] (fun _ => True) (fun _ => False) rfl (by first | (go_simp; done) | (go_simp; rfl)) (k26_mkM _ _ _ x) (fun _ hk => hk.elim) (fun _ _ => trivial) HO.out HB.out HB.out.size (by have := HL.out; have := HQ.out; rw [List.length_map]; omega) ?_; intro v1 w9 hq1 hb1 hg1 hat1; have HO1 := Aside0.mk hq1; replace HB := Aside0.mk hb1; clear hq1 hb1 hg1 hat1)))
            go_roundg qo
            case measure => omega
            case rel => exact ⟨i + 1, s ++ t, L ++ [(x, Pl.bytesL t)], rfl, congrArg (Value.int .i64) hwi, ⟨by have := HQ.out; have := H15.out; omega⟩, ⟨by have := HL.out; have := HBG.out; have := HSS.out; rw [List.length_append, ByteArray.size_append, List.length_singleton]; omega⟩, ⟨by rw [Pl.bytesL_app, Pl.fl_snoc, HS.out]⟩, ⟨fun y hy => by
              rcases List.mem_append.1 hy with h | h
              · exact HP.out y h
              · obtain rfl := List.mem_singleton.1 h; exact HPP.out⟩, ⟨by have := HO1.out; rwa [List.map_append]⟩, HB⟩
          · have he0 : (er == 0) = false := beq_eq_false_iff_ne.2 he
            clear he HIS
            go_wp2_with (first | (go_at_call 11; ((with_reducible refine (tallboylaw29_Great.calls x.f0 x.f1 x.f2 x.f3 x.f4 x.f5 x.f6 x.f7 false _ HG.out).mono ?_); rintro e w3 ⟨rfl, hb⟩; replace HO := Aside0.mk (Kd.R_below HO.out hb); replace HB := Aside0.mk (below_step HB.out hb); clear hb; obtain ⟨e0, e1, e2, e3, e4, e5, e6, e7⟩ := HE.out _ HB.out)) | (go_at_call 13; ((with_reducible refine (tallboylaw29_To.calls x.f0 x.f1 x.f2 x.f3 x.f4 x.f5 x.f6 x.f7 x.f0 x.f1 x.f2 x.f3 x.f4 x.f5 x.f6 x.f7 _ rfl).mono ?_); rintro e w4 ⟨rfl, hb⟩; replace HO := Aside0.mk (Kd.R_below HO.out hb); replace HB := Aside0.mk (below_step HB.out hb); clear hb)) | (go_at_call 12; ((with_reducible refine (frame_Pack.calls x.f0 x.f1 x.f2 x.f3 x.f4 x.f5 x.f6 x.f7 t er _ HPK.out).mono ?_); rintro e w5 ⟨rfl, hb⟩; replace HO := Aside0.mk (Kd.R_below HO.out hb); replace HB := Aside0.mk (below_step HB.out hb); clear hb; obtain ⟨e0, e1, e2, e3, e4, e5, e6, e7⟩ := HE.out _ HB.out)))
            go_roundg qo
            case measure => omega
            case rel => exact ⟨i + 1, s, L, rfl, congrArg (Value.int .i64) hwi, ⟨by have := HQ.out; have := H15.out; omega⟩, ⟨by have := HL.out; omega⟩, HS, HP, HO, HB⟩
    · rcases (show (i < n0 ∧ ¬ i < 10) ∨ ¬ i < n0 by omega) with ⟨h1, h2⟩ | h1
      case' inl =>
        have hd1 : decide ((i : Int) < (n0 : Int)) = true := decide_eq_true (by omega)
        have hd1b : decide (i < n0) = true := decide_eq_true h1
        have hd2 : decide ((i : Int) < 10) = false := decide_eq_false (by omega)
        have hd2b : decide (i < 10) = false := decide_eq_false h2
        clear h1 h2 h12
      case' inr =>
        have hd1 : decide ((i : Int) < (n0 : Int)) = false := decide_eq_false (by omega)
        have hd1b : decide (i < n0) = false := decide_eq_false h1
        clear h1 h12
      all_goals
        obtain ⟨A6, c6, rfl, hc6, hC6⟩ := Kd.R_reads HO.out
        obtain ⟨m, hm⟩ : ∃ m, m = (L.map Prod.fst).length := ⟨_, rfl⟩
        rw [← hm] at hc6 hC6 ⊢
        have HC6 := Aside0.mk hC6
        have HM := Aside0.mk (show m = L.length by rw [hm, List.length_map])
        have HWB := HB
        rename World => wb
        obtain ⟨s0, hs0⟩ : ∃ s0, s0 = s.size := ⟨_, rfl⟩
        have HS0 := Aside0.mk hs0
        clear hC6 hm HO HB HR HF hs0
        go_wp2_with (first | (go_at_call 18; ((with_reducible refine (FRd.new wb wb (Below.refl _ _)).mono ?_); rintro e w2 ⟨ga, rfl, hI1, hB1⟩; have HI := Aside0.mk hI1; have HB := Aside0.mk hB1; clear hI1 hB1)))
        go_loopg [11, 12, 13] s0 (fun q v11 v12 v13 wi => ∃ (at_ n ci : Nat) (bs : List Int), v11 = .int .i64 (at_ : Int) ∧ v12 = .int .i64 (n : Int) ∧ v13 = .int .i64 (ci : Int) ∧ Aside0 (q + at_ = s0 ∧ ci ≤ at_ ∧ n ≤ m) ∧ Aside0 (bs ++ (Pl.bytesL s).drop at_ = Pl.fl (L.drop n)) ∧ Aside0 (∀ y l, L.drop n = y :: l → bs.length < y.2.length) ∧ Aside0 (FRd wb wi ga bs 0) ∧ Aside0 (Below wb.heap.size wb wi))
        case atStart => exact ⟨0, 0, 0, [], rfl, rfl, rfl, ⟨by omega⟩, ⟨HS.out⟩, ⟨fun y l hy => (HP.out y (by rw [List.drop_zero] at hy; rw [hy]; exact List.mem_cons_self)).1⟩, HI, HB⟩
        case round =>
          clear HI HB
          obtain ⟨at_, n, ci, bs, rfl, rfl, rfl, HK, HT, HY, HI, HB⟩ := hrel
          by_cases hat : at_ < s0
          · have hA1 : decide ((at_ : Int) < (s.size : Int)) = true := decide_eq_true (by have := HS0.out; omega)
            have hA2 : decide (at_ < s.size) = true := decide_eq_true (by have := HS0.out; omega)
            have HAT := Aside0.mk hat
            clear hat
            obtain ⟨R, hR⟩ : ∃ R : Nat, R + at_ = s0 := ⟨s0 - at_, by have := HAT.out; omega⟩
            have HSUB := Aside0.mk (show wrap64 ((s.size : Int) - (at_ : Int)) = (R : Int) by have := HS0.out; have := HL.out; unfold wrap64; omega)
            have HR0 := Aside0.mk hR
            clear hR
            obtain ⟨k0, hk0⟩ : ∃ k0, k0 = wrap64 (1 + wrap64 ((s.size : Int) / 50)) := ⟨_, rfl⟩
            have HK0 := Aside0.mk (show 1 ≤ k0 ∧ k0 ≤ 1000000 by
              have := HL.out
              have e : wrap64 ((s.size : Int) / 50) = (s.size : Int) / 50 := by unfold wrap64; omega
              rw [hk0, e]
              unfold wrap64
              omega)
            replace hk0 := Aside0.mk hk0.symm
            by_cases hci : ci < n1
            case' pos =>
              have hC1 : decide ((ci : Int) < (n1 : Int)) = true := decide_eq_true (by omega)
              have hC2 : decide (ci < n1) = true := decide_eq_true hci
              have hci0 : (0 ≤ (ci : Int)) = True := eq_true (by omega)
              have hci1 : ((ci : Int) < (n1 : Int)) = True := eq_true (by omega)
              have hci2 : (ci < n1) = True := eq_true hci
              obtain ⟨ad, rfl, hcell⟩ := Kd.at_int (Kd.C_below (by have := HR1.out; rwa [← HN1.out] at this) (below_step HWB.out HB.out)) (ci : Int) (by omega) (by omega)
              rw [Int.toNat_natCast] at hcell
              obtain ⟨y, hy⟩ : ∃ y, y = rd l1 (ci : Int) := ⟨_, rfl⟩
              rw [← hy] at hcell
              obtain ⟨k1, hk1⟩ : ∃ k1, k1 = wrap64 (1 + wrap64 ((IntKind.u64.wrap y).tmod 200)) := ⟨_, rfl⟩
              have HK1 := Aside0.mk (show 1 ≤ k1 ∧ k1 ≤ 1000000 by
                have u0 : 0 ≤ IntKind.u64.wrap y := by rw [IntKind.wrap_u64]; omega
                have t0 : 0 ≤ Int.tmod (IntKind.u64.wrap y) 200 := Int.tmod_nonneg _ u0
                have t1 : Int.tmod (IntKind.u64.wrap y) 200 < 200 := Int.tmod_lt_of_pos _ (by decide)
                rw [hk1]
                generalize Int.tmod (IntKind.u64.wrap y) 200 = z at t0 t1
                have e : wrap64 z = z := by unfold wrap64; omega
                rw [e]
                unfold wrap64
                omega)
              replace hk1 := Aside0.mk hk1.symm
              clear hy hci
            case' neg =>
              have hC1 : decide ((ci : Int) < (n1 : Int)) = false := decide_eq_false (by omega)
              have hC2 : decide (ci < n1) = false := decide_eq_false hci
              obtain ⟨k1, hk1⟩ : ∃ k1, k1 = k0 := ⟨_, rfl⟩
              have HK1 := Aside0.mk (show 1 ≤ k1 ∧ k1 ≤ 1000000 by rw [hk1]; exact HK0.out)
              rw [← hk1] at hk0
              clear hci hk1
              have hk1 := hk0
            all_goals
              obtain ⟨kk, hkk⟩ : ∃ kk : Nat, (if (R : Int) < k1 then (R : Int) else k1) = (kk : Int) := ⟨(if (R : Int) < k1 then (R : Int) else k1).toNat, by have := HK1.out; split <;> omega⟩
              replace hkk := Aside0.mk hkk
              have HKK := Aside0.mk (show 1 ≤ kk ∧ kk ≤ R by have := HK1.out; have := HR0.out; have := HAT.out; have hkk := hkk.out; split at hkk <;> omega)
              obtain ⟨e_, he_⟩ : ∃ e_ : Nat, e_ = at_ + kk := ⟨_, rfl⟩
              have HE_ := Aside0.mk he_
              have HAK := Aside0.mk (show wrap64 ((at_ : Int) + (kk : Int)) = (e_ : Int) by have := HS0.out; have := HL.out; have := HKK.out; have := HR0.out; unfold wrap64; omega)
              have hs1 : ((at_ : Int) ≤ (e_ : Int)) = True := eq_true (by omega)
              have hs2 : (at_ ≤ e_) = True := eq_true (by omega)
              have hs3 : ((e_ : Int) ≤ (s.size : Int)) = True := eq_true (by have := HS0.out; have := HKK.out; have := HR0.out; omega)
              have hs4 : (e_ ≤ s.size) = True := eq_true (by have := HS0.out; have := HKK.out; have := HR0.out; omega)
              obtain ⟨qo, hqo⟩ : ∃ qo, gk = qo + kk := ⟨R - kk, by have := HK.out; have := HKK.out; have := HR0.out; omega⟩
              subst hqo
              obtain ⟨c, hc⟩ : ∃ c, s.extract at_ e_ = c := ⟨_, rfl⟩
              have HC := Aside0.mk (show Pl.bytesL c = ((Pl.bytesL s).take e_).drop at_ by rw [← hc, Pl.bytesL_cut])
              have HCS := Aside0.mk (show c.size ≤ 100024 by have := HL.out; rw [← hc, ByteArray.size_extract]; omega)
              have HFL := Aside0.mk (show (Pl.fl L).length ≤ 100024 by rw [← HS.out, Pl.bytesL_len]; exact HL.out.2)
              have HBS := Aside0.mk (show bs.length ≤ 100024 by
                have h9 := congrArg List.length HT.out
                rw [List.length_append] at h9
                have := Pl.fl_drop L n
                have := HFL.out
                omega)
              have HT2 := Aside0.mk (show (bs ++ Pl.bytesL c) ++ (Pl.bytesL s).drop e_ = Pl.fl (L.drop n) by
                rw [← HT.out, HC.out, List.append_assoc, Pl.cut_join _ _ _ (by omega)])
              have kb := fun W => print_bytes (P := Try.prog) 9 46 5 Try.underlying9 Try.underlying46 Try.underlying5 c W
              have HF1 := Aside0.mk (show c.size ≤ 9223372036854775807 ∧ bs.length ≤ 2097152 ∧ c.size ≤ 2097152 ∧ bs.length + c.size ≤ 2097152 by have := HBS.out; have := HCS.out; omega)
              clear he_
              replace hk0 := hk0.out; replace hk1 := hk1.out; replace hkk := hkk.out; have hak := HAK.out; have hsub := HSUB.out
              go_wp2_with (first | (go_at_call 19; ((with_reducible refine (FRd.feedN wb _ ga bs 0 _ _ c.size (Pl.bytesL c) (Pl.bytesL_len c) (HI.out.below (bytes_below (Below.refl _ _) (Nat.le_refl _) 5 c)) (bytes_below HB.out HB.out.size 5 c) (bytes_C _ c HF1.out.1) HF1.out.2.1 HF1.out.2.2.1 rfl HF1.out.2.2.2).mono ?_); rintro e w6 ⟨rfl, hI, hB, hK⟩; replace HI := Aside0.mk hI; replace HB := Aside0.mk hB; clear hI hB hK)))
              clear hk0 hk1 hkk hak hsub hs1 hs2 hs3 hs4 kb hA1 hA2 hC1 hC2
              have HCI := Aside0.mk (show wrap64 ((ci : Int) + 1) = ((ci + 1 : Nat) : Int) by have := HK.out; have := HS0.out; have := HL.out; unfold wrap64; omega)
              go_loopg [12] (m - n) (fun q v12 wi => ∃ (n2 : Nat) (b2 : List Int), v12 = .int .i64 (n2 : Int) ∧ Aside0 (q + n2 = m) ∧ Aside0 (b2 ++ (Pl.bytesL s).drop e_ = Pl.fl (L.drop n2)) ∧ Aside0 (FRd wb wi ga b2 0) ∧ Aside0 (Below wb.heap.size wb wi))
              case atStart => exact ⟨n, _, rfl, ⟨by have := HK.out; omega⟩, HT2, HI, HB⟩
              case round =>
                clear HI HB
                obtain ⟨n2, b2, rfl, HQ2, HT3, HI, HB⟩ := hrel
                have HB2 := Aside0.mk (show b2.length ≤ 100024 by
                  have h9 := congrArg List.length HT3.out
                  rw [List.length_append] at h9
                  have := Pl.fl_drop L n2
                  have := HFL.out
                  omega)
                by_cases hno : ∀ y l, L.drop n2 = y :: l → b2.length < y.2.length
                · have HNX := Aside0.mk (FRd.next_0 b2 (Pl.none_yet HP.out HT3.out hno) (by have := HB2.out; omega))
                  have HNO := Aside0.mk hno
                  clear hno
                  go_wp2_with (first | (go_at_call 21; ((with_reducible refine (HNX.out wb _ ga HI.out HB.out).mono ?_); rintro e w7 ⟨rfl, hI, hB, hK⟩; replace HI := Aside0.mk hI; replace HB := Aside0.mk hB; clear hI hB hK)) | ((with_reducible refine gate_dst (N := 15) rfl ?_); (refine bE 15 #[.bool false, .int .u8 0, .int .u16 0, .int .u32 0, .int .u64 0, .string ⟨#[]⟩, .string ⟨#[]⟩, .string ⟨#[]⟩] 31 rfl rfl ?_; intro gx1 hgx wx1 hbox hb; have BX := Aside0.mk hbox; replace HI := Aside0.mk (HI.out.below hb); have HGX := Aside0.mk (show wb.heap.size ≤ gx1 by rw [hgx]; exact HB.out.size); replace HB := Aside0.mk (below_step HB.out hb); have HXA := Aside0.mk (HI.out.blk BX.out (by decide)); clear hgx hbox hb; obtain ⟨hczx, hfzx⟩ := d8 BX)) | ((with_reducible refine gate_dst (N := 110) rfl ?_); obtain ⟨w8_1, hw8⟩ : ∃ w8, w8 = ((((((((wx1.setCell ⟨gx1, 0, none⟩ (.bool false)).setCell ⟨gx1, 1, none⟩ (.int .u8 0)).setCell ⟨gx1, 2, none⟩ (.int .u16 0)).setCell ⟨gx1, 3, none⟩ (.int .u32 0)).setCell ⟨gx1, 4, none⟩ (.int .u64 0)).setCell ⟨gx1, 5, none⟩ (.string ⟨#[]⟩)).setCell ⟨gx1, 6, none⟩ (.string ⟨#[]⟩)).setCell ⟨gx1, 7, none⟩ (.string ⟨#[]⟩)) := ⟨_, rfl⟩; have HI8 := Aside0.mk (show FRd wb w8_1 ga _ _ by rw [hw8]; exact HI.out.keep (b := gx1) BX.out (by decide) HXA.out (by with_reducible repeat (first | exact KeepBut.refl _ _ _ | refine KeepBut.set_ ?_ _ _))); have HB8 := Aside0.mk (show Below wb.heap.size wb w8_1 by rw [hw8]; exact bH HB.out); have BX8 := Aside0.mk (show w8_1.heap[gx1]? = some (.cells #[.bool false, .int .u8 0, .int .u16 0, .int .u32 0, .int .u64 0, .string ⟨#[]⟩, .string ⟨#[]⟩, .string ⟨#[]⟩] 31 (0, 0)) by rw [hw8]; exact bV BX.out); rw [← hw8]; clear hw8 hczx hfzx BX HXA HGX HI HB; rename Aside0 (FRd wb _ ga _ _) => HI; rename Aside0 (Below wb.heap.size wb w8_1) => HB))
                  go_roundg qo
                  case measure => have := HKK.out; omega
                  case rel => exact ⟨e_, n2, ci + 1, b2, (by first | rfl | exact congrArg (Value.int .i64) HAK.out), rfl, congrArg (Value.int .i64) HCI.out, ⟨by have := HK.out; have := HKK.out; have := HE_.out; have := HQ2.out; omega⟩, HT3, HNO, HI, HB⟩
                · obtain ⟨y, l, hd, hl⟩ : ∃ y l, L.drop n2 = y :: l ∧ y.2.length ≤ b2.length := Classical.byContradiction fun h => hno fun y l hd => Nat.lt_of_not_le fun hl => h ⟨y, l, hd, hl⟩
                  obtain ⟨b3, hb3, ht3, hd3⟩ := Pl.one_more HT3.out hd hl
                  have hy := HP.out y (List.mem_of_mem_drop (i := n2) (by rw [hd]; exact List.mem_cons_self))
                  obtain ⟨hlt, hel⟩ := Pl.nth_of hd
                  have hlm : n2 < m := by have := HM.out; omega
                  subst hb3
                  obtain ⟨q1, hq1⟩ : ∃ q1, gk = q1 + 1 := ⟨m - n2 - 1, by have := HQ2.out; omega⟩
                  subst hq1
                  obtain ⟨ad6, rfl, hE6⟩ := at_fr HC6.out n2 hlm
                  rw [hel] at hE6
                  have HNX := Aside0.mk (FRd.next_x y.1 y.2 b3 hy (by have := HB2.out; omega))
                  obtain ⟨x, hx⟩ : ∃ x, x = y.1 := ⟨_, rfl⟩
                  rw [← hx] at HNX hE6
                  have HE6 := Aside0.mk hE6
                  have HWN := Aside0.mk (show wrap64 ((n2 : Int) + 1) = ((n2 + 1 : Nat) : Int) by have := HM.out; have := HL.out; have := HQ.out; unfold wrap64; omega)
                  have HT4 := Aside0.mk ht3
                  have hg1 : decide ((m : Int) ≤ (n2 : Int)) = false := decide_eq_false (by omega)
                  have hg2 : decide (m ≤ n2) = false := decide_eq_false (by omega)
                  have hj0 : (0 ≤ (n2 : Int)) = True := eq_true (by omega)
                  have hj1 : ((n2 : Int) < (m : Int)) = True := eq_true (by omega)
                  have hj2 : (n2 < m) = True := eq_true hlm
                  clear hno hd hl hd3 hy hlt hel hlm hx hE6 ht3
                  go_wp2_with (first | (go_at_call 21; ((with_reducible refine (HNX.out wb _ ga HI.out HB.out).mono ?_); rintro e w7 ⟨rfl, hI, hB, hK⟩; replace HI := Aside0.mk hI; replace HB := Aside0.mk hB; clear hI hB hK)) | ((with_reducible refine gate_dst (N := 15) rfl ?_); (refine bE 15 #[.bool false, .int .u8 0, .int .u16 0, .int .u32 0, .int .u64 0, .string ⟨#[]⟩, .string ⟨#[]⟩, .string ⟨#[]⟩] 31 rfl rfl ?_; intro gx2 hgx wx2 hbox hb; have BX := Aside0.mk hbox; replace HI := Aside0.mk (HI.out.below hb); have HGX := Aside0.mk (show wb.heap.size ≤ gx2 by rw [hgx]; exact HB.out.size); replace HB := Aside0.mk (below_step HB.out hb); have HXA := Aside0.mk (HI.out.blk BX.out (by decide)); clear hgx hbox hb; obtain ⟨hczx, hfzx⟩ := d8 BX)) | ((with_reducible refine gate_dst (N := 110) rfl ?_); obtain ⟨w8_2, hw8⟩ : ∃ w8, w8 = ((((((((wx2.setCell ⟨gx2, 0, none⟩ (.bool x.f0)).setCell ⟨gx2, 1, none⟩ (.int .u8 x.f1)).setCell ⟨gx2, 2, none⟩ (.int .u16 x.f2)).setCell ⟨gx2, 3, none⟩ (.int .u32 x.f3)).setCell ⟨gx2, 4, none⟩ (.int .u64 x.f4)).setCell ⟨gx2, 5, none⟩ (.string x.f5)).setCell ⟨gx2, 6, none⟩ (.string x.f6)).setCell ⟨gx2, 7, none⟩ (.string x.f7)) := ⟨_, rfl⟩; have HI8 := Aside0.mk (show FRd wb w8_2 ga _ _ by rw [hw8]; exact HI.out.keep (b := gx2) BX.out (by decide) HXA.out (by with_reducible repeat (first | exact KeepBut.refl _ _ _ | refine KeepBut.set_ ?_ _ _))); have HB8 := Aside0.mk (show Below wb.heap.size wb w8_2 by rw [hw8]; exact bH HB.out); have BX8 := Aside0.mk (show w8_2.heap[gx2]? = some (.cells #[.bool x.f0, .int .u8 x.f1, .int .u16 x.f2, .int .u32 x.f3, .int .u64 x.f4, .string x.f5, .string x.f6, .string x.f7] 31 (0, 0)) by rw [hw8]; exact bV BX.out); rw [← hw8]; clear hw8 hczx hfzx BX HXA HGX HI HB; rename Aside0 (FRd wb _ ga _ _) => HI; rename Aside0 (Below wb.heap.size wb w8_2) => HB))
                  refine start_ (n := 13) (S := fun w' => w'.heap[gx2]? = some (.cells #[.bool x.f0, .int .u8 x.f1, .int .u16 x.f2, .int .u32 x.f3, .int .u64 x.f4, .string x.f5, .string x.f6, .string x.f7] 31 (0, 0)) ∧ Below wb.heap.size wb w') (ds := []) #[false, false, false, false, false, false, false, false, false, false, false, false, false] (by kernel_rfl) rfl rfl ⟨BX8.out, below_drew1 HB.out⟩ (fun hHeld => ?_)
                  refine pure_ (i := 0) (N := some 113) (v := .int .i64 (n2 : Int)) (a' := ?_) #[true, false, false, false, false, false, false, false, false, false, false, false, false] rfl rfl (by kernel_rfl) (fun _ _ _ h => h) (Or.inl ⟨by rfl, ?_⟩) ?_ ?_
                  · intro w'; first | (go_simp; done) | (go_simp; with_reducible rfl)
                  rotate_left
                  · simp only [Act.put, sA, sB, sC, i64_w, i32_w]; rfl
                  refine pure_ (i := 1) (N := some 114) (v := .slice (some ad6) m c6) (a' := ?_) #[true, true, false, false, false, false, false, false, false, false, false, false, false] rfl rfl (by kernel_rfl) (fun _ _ _ h => h) (Or.inl ⟨by rfl, ?_⟩) ?_ ?_
                  · intro w'; first | (go_simp; done) | (go_simp; with_reducible rfl)
                  rotate_left
                  · simp only [Act.put, sA, sB, sC, i64_w, i32_w]; rfl
                  refine pure_ (i := 2) (N := some 115) (v := .int .i64 (m : Int)) (a' := ?_) #[true, true, true, false, false, false, false, false, false, false, false, false, false] rfl rfl (by kernel_rfl) (fun _ _ _ h => h) (Or.inl ⟨by rfl, ?_⟩) ?_ ?_
                  · intro w'; first | (go_simp; done) | (go_simp; with_reducible rfl)
                  rotate_left
                  · simp only [Act.put, sA, sB, sC, i64_w, i32_w]; rfl
                  refine pure_ (i := 3) (N := some 116) (v := .bool false) (a' := ?_) #[true, true, true, true, false, false, false, false, false, false, false, false, false] rfl rfl (by kernel_rfl) (fun _ _ _ h => h) (Or.inl ⟨by rfl, ?_⟩) ?_ ?_
                  · intro w'; first | (go_simp; done) | (go_simp; with_reducible rfl)
                  rotate_left
                  · simp only [Act.put, sA, sB, sC, i64_w, i32_w]; rfl
                  refine pure_ (i := 4) (N := some 117) (v := .bool false) (a' := ?_) #[true, true, true, true, true, false, false, false, false, false, false, false, false] rfl rfl (by kernel_rfl) (fun _ _ _ h => h) (Or.inl ⟨by rfl, ?_⟩) ?_ ?_
                  · intro w'; first | (go_simp; done) | (go_simp; with_reducible rfl)
                  rotate_left
                  · simp only [Act.put, sA, sB, sC, i64_w, i32_w]; rfl
                  refine take_ (i := 5) (N := some 118) (v := .agg #[.bool x.f0, .int .u8 x.f1, .int .u16 x.f2, .int .u32 x.f3, .int .u64 x.f4, .string x.f5, .string x.f6, .string x.f7]) (a' := ?_) #[true, true, true, true, true, true, false, false, false, false, false, false, false] rfl rfl (by kernel_rfl) (fun _ _ _ h => h) (Or.inl ⟨by rfl, ?_⟩) hHeld ?_ ?_
                  · intro w' hHw; obtain ⟨hcx_, hfx_⟩ := d8 (Aside0.mk hHw.1); first | (go_simp; done) | (go_simp; with_reducible rfl)
                  rotate_left
                  · simp only [Act.put, sA, sB, sC, i64_w, i32_w]; rfl
                  refine pure_ (i := 7) (N := some 120) (v := .slice (some ad6) m c6) (a' := ?_) #[true, true, true, true, true, true, false, true, false, false, false, false, false] rfl rfl (by kernel_rfl) (fun _ _ _ h => h) (Or.inl ⟨by rfl, ?_⟩) ?_ ?_
                  · intro w'; first | (go_simp; done) | (go_simp; with_reducible rfl)
                  rotate_left
                  · simp only [Act.put, sA, sB, sC, i64_w, i32_w]; rfl
                  refine pure_ (i := 8) (N := some 121) (v := .int .i64 (n2 : Int)) (a' := ?_) #[true, true, true, true, true, true, false, true, true, false, false, false, false] rfl rfl (by kernel_rfl) (fun _ _ _ h => h) (Or.inl ⟨by rfl, ?_⟩) ?_ ?_
                  · intro w'; first | (go_simp; done) | (go_simp; with_reducible rfl)
                  rotate_left
                  · simp only [Act.put, sA, sB, sC, i64_w, i32_w]; rfl
                  refine pure_ (i := 9) (N := some 122) (v := .pointer (some (ad6.add (n2 * 8)))) (a' := ?_) #[true, true, true, true, true, true, false, true, true, true, false, false, false] rfl rfl (by kernel_rfl) (fun _ _ _ h => h) (Or.inl ⟨by rfl, ?_⟩) ?_ ?_
                  · intro w'; first | (go_simp; done) | (go_simp; with_reducible rfl)
                  rotate_left
                  · simp only [Act.put, sA, sB, sC, i64_w, i32_w]; rfl
                  refine take_ (i := 10) (N := some 123) (v := .agg #[.bool x.f0, .int .u8 x.f1, .int .u16 x.f2, .int .u32 x.f3, .int .u64 x.f4, .string x.f5, .string x.f6, .string x.f7]) (a' := ?_) #[true, true, true, true, true, true, false, true, true, true, true, false, false] rfl rfl (by kernel_rfl) (fun _ _ _ h => h) (Or.inl ⟨by rfl, ?_⟩) hHeld ?_ ?_
                  · intro w' hHw; obtain ⟨e0, e1, e2, e3, e4, e5, e6, e7⟩ := HE6.out w' hHw.2; first | (go_simp; done) | (go_simp; with_reducible rfl)
                  rotate_left
                  · simp only [Act.put, sA, sB, sC, i64_w, i32_w]; rfl
                  refine one_ (i := 6) (N := some 119) #[true, true, true, true, true, true, true, true, true, true, true, false, false] rfl rfl (by kernel_rfl) (by decide) (fun K hK => ?_)
                  refine goes_ Try.func17 (by kernel_rfl) rfl #[.agg #[.bool x.f0, .int .u8 x.f1, .int .u16 x.f2, .int .u32 x.f3, .int .u64 x.f4, .string x.f5, .string x.f6, .string x.f7]] (by rfl) rfl rfl (by (try simp only [List.map_toArray, List.map_cons, List.map_nil]); first | done | rfl) ?_
                  refine (tallboylaw29_From.calls x.f0 x.f1 x.f2 x.f3 x.f4 x.f5 x.f6 x.f7 x.f0 x.f1 x.f2 x.f3 x.f4 x.f5 x.f6 x.f7 _ rfl).mono ?_
                  rintro e w12 ⟨rfl, hb⟩; replace HI := Aside0.mk (FRd.below (W := w8_2.drew) HI.out hb); replace HB := Aside0.mk (below_step (below_drew1 HB.out) hb); have hS12 := And.intro (blk_below hHeld.1 hb) HB.out; clear hb hHeld
                  refine ⟨_, rfl, ?_⟩
                  refine hK.out _ _ hS12 (fun hHeld => ?_)
                  clear hK K; refine norm_ (a' := ?_) ?_ ?_
                  rotate_left
                  · show Act.put _ (some 119) _ = _; simp only [Act.put, sA, sB, sC, i64_w, i32_w]; rfl
                  refine pure_ (i := 11) (N := some 124) (v := .bool false) (a' := ?_) #[true, true, true, true, true, true, true, true, true, true, true, true, false] rfl rfl (by kernel_rfl) (fun _ _ _ h => h) (Or.inl ⟨by rfl, ?_⟩) ?_ ?_
                  · intro w'; first | (go_simp; done) | (go_simp; with_reducible rfl)
                  rotate_left
                  · simp only [Act.put, sA, sB, sC, i64_w, i32_w]; rfl
                  refine pure_ (i := 12) (N := some 125) (v := .bool false) (a' := ?_) #[true, true, true, true, true, true, true, true, true, true, true, true, true] rfl rfl (by kernel_rfl) (fun _ _ _ h => h) (Or.inl ⟨by rfl, ?_⟩) ?_ ?_
                  · intro w'; first | (go_simp; done) | (go_simp; with_reducible rfl)
                  rotate_left
                  · simp only [Act.put, sA, sB, sC, i64_w, i32_w]; rfl
                  refine done_ (by kernel_rfl) ?_
                  go_wp2
                  go_roundg q1
                  case measure => omega
                  case rel => exact ⟨n2 + 1, b3, congrArg (Value.int .i64) HWN.out, ⟨by have := HQ2.out; omega⟩, HT4, HI, HB⟩
          · have hA1 : decide ((at_ : Int) < (s.size : Int)) = false := decide_eq_false (by have := HS0.out; omega)
            have hA2 : decide (at_ < s.size) = false := decide_eq_false (by have := HS0.out; omega)
            obtain rfl : n = m := by
              have h0 : (Pl.bytesL s).drop at_ = [] := List.drop_eq_nil_of_le (by rw [Pl.bytesL_len]; have := HS0.out; omega)
              have h1 := HT.out
              rw [h0, List.append_nil] at h1
              have := HK.out
              have := HM.out
              rcases Nat.lt_or_ge n L.length with h | h
              · have h2 := List.drop_eq_getElem_cons h
                have h3 := HY.out _ _ h2
                rw [h2, Pl.fl_cons] at h1
                rw [h1, List.length_append] at h3
                omega
              · omega
            clear hat
            go_wp2
            go_ret
            exact ⟨rfl, below_step HWB.out HB.out⟩
end Go.Proofs.Ytdepkgikdmlgiaa.P
