/- FrameOnce's walk. Conditions: the readings that each theorem names. -/
import Derived.Test.YtdepkgikdmlgiaaFrh
namespace Go.Proofs.Ytdepkgikdmlgiaa.P
open Go.RowKit Go.Proofs.YtdepkgikdmlgiaaW.PrintWords Go.Proofs.YtdepkgikdmlgiaaW.PrintLast Go.Proofs.YtdepkgikdmlgiaaW.PrintMore
set_option linter.unusedVariables false
set_option linter.unusedSimpArgs false
set_option maxHeartbeats 4000000 in
set_option maxRecDepth 100000 in
theorem fo_law (kw : Nat) (w : World) (A0 : Option Addr) (c0 : Nat) (l0 : List S26) (b : Int) (A2 : Option Addr) (c2 : Nat) (l2 : List Int) (hr0 : Kd.C k26 w A0 l0.length l0) (hc0 : l0.length ≤ c0) (hr2 : kB.C w A2 l2.length l2) (hc2 : l2.length ≤ c2) (hf : ∀ x ∈ l0, fOk x) (hb : 0 ≤ b ∧ b < 256) (hw : tallboylaw29_works.f kw = some true) :
    Calls Try.prog 10 #[.slice A0 l0.length c0, .int .u8 b, .slice A2 l2.length c2] w fun e w' => e = .returned (.bool true) ∧ Below w.heap.size w w' := by
  have HR := Aside0.mk hr0
  have HR2 := Aside0.mk hr2
  have HF := Aside0.mk hf
  have HW := Aside0.mk hw
  obtain ⟨n0, hn0⟩ : ∃ n0, n0 = l0.length := ⟨_, rfl⟩
  obtain ⟨n2, hn2⟩ : ∃ n2, n2 = l2.length := ⟨_, rfl⟩
  rw [← hn0] at hc0 ⊢
  rw [← hn2] at hc2 ⊢
  have HN0 := Aside0.mk hn0
  have HN2 := Aside0.mk hn2
  have HB := Aside0.mk (Below.refl w.heap.size w)
  have HBR := Aside0.mk hb
  clear hr0 hr2 hf hw hn0 hn2 hb
  by_cases h8 : b = 128
  · subst h8
    clear HBR
    go_enter Try.func10, Try.ntmps10
    go_wp2_with (first | (go_at_call 36; (with_reducible refine (tallboylaw29_works.calls kw true _ HW.out).mono ?_); rintro e w1 ⟨rfl, hb⟩; replace HB := Aside0.mk (below_step HB.out hb); clear hb))
    go_ret
    exact ⟨rfl, HB.out⟩
  · by_cases h9 : b = 129
    · subst h9
      clear HBR h8
      go_enter Try.func10, Try.ntmps10
      go_wp2_with (first | (go_at_call 36; (with_reducible refine (tallboylaw29_works.calls kw true _ HW.out).mono ?_); rintro e w1 ⟨rfl, hb⟩; replace HB := Aside0.mk (below_step HB.out hb); clear hb))
      go_ret
      exact ⟨rfl, HB.out⟩
    · have e8 : (b == 128) = false := beq_eq_false_iff_ne.2 h8
      have e9 : (b == 129) = false := beq_eq_false_iff_ne.2 h9
      have H89 := Aside0.mk (And.intro h8 h9)
      clear h8 h9
      by_cases h2 : n2 > 2000
      · have e2 : decide (2000 < n2) = true := decide_eq_true h2
        have e2b : decide ((2000 : Int) < (n2 : Int)) = true := decide_eq_true (by omega)
        clear h2
        go_enter Try.func10, Try.ntmps10
        go_wp2_with (first | (go_at_call 36; (with_reducible refine (tallboylaw29_works.calls kw true _ HW.out).mono ?_); rintro e w1 ⟨rfl, hb⟩; replace HB := Aside0.mk (below_step HB.out hb); clear hb))
        go_ret
        exact ⟨rfl, HB.out⟩
      · have e2 : decide (2000 < n2) = false := decide_eq_false h2
        have e2b : decide ((2000 : Int) < (n2 : Int)) = false := decide_eq_false (by omega)
        have H2 := Aside0.mk h2
        clear h2
        go_enter Try.func10, Try.ntmps10
        go_wp2_with (first | (go_at_call 36; (with_reducible refine (tallboylaw29_works.calls kw true _ HW.out).mono ?_); rintro e w1 ⟨rfl, hb⟩; replace HB := Aside0.mk (below_step HB.out hb); clear hb) | (go_at_call 18; (with_reducible refine (FRd.new w _ HB.out).mono ?_); rintro e w2 ⟨ga, rfl, hI1, hB1⟩; have HI := Aside0.mk hI1; replace HB := Aside0.mk hB1; clear hI1 hB1))
        go_loopg [8, 9] n0 (fun q v8 v9 wr => ∃ (i : Nat) (ps : List (List Int)), v8 = .int .i64 (ps.length : Int) ∧ v9 = .int .i64 (i : Int) ∧ Aside0 (q + i = n0 ∧ i ≤ 5) ∧ Aside0 (ps.length ≤ i ∧ (ps.flatten.length ≤ i * 60024)) ∧ Aside0 (∀ p ∈ ps, Go.Proofs.Ytdepkgikdmlgiaa.Pl.IsPk p) ∧ Aside0 (FRd w wr ga ps.flatten 0) ∧ Aside0 (Below w.heap.size w wr))
        case atStart => exact ⟨0, [], rfl, rfl, ⟨by omega⟩, ⟨by simp⟩, ⟨by simp⟩, HI, HB⟩
        case round =>
          clear HI HB e8 e9 e2 e2b
          obtain ⟨i, ps, rfl, rfl, HQ, HL, HP, HI, HB⟩ := hrel
          by_cases h12 : i < n0 ∧ i < 5
          · obtain ⟨h1, h2⟩ := h12
            obtain ⟨qo, hqo⟩ : ∃ qo, gk = qo + 1 := ⟨n0 - i - 1, by have := HQ.out; omega⟩
            subst hqo
            have hd1 : decide ((i : Int) < (n0 : Int)) = true := decide_eq_true (by omega)
            have hd1b : decide (i < n0) = true := decide_eq_true h1
            have hd2 : decide ((i : Int) < 5) = true := decide_eq_true (by omega)
            have hd2b : decide (i < 5) = true := decide_eq_true h2
            have hwi : wrap64 ((i : Int) + 1) = ((i + 1 : Nat) : Int) := by unfold wrap64; omega
            have hwn : wrap64 ((ps.length : Int) + 1) = ((ps.length + 1 : Nat) : Int) := by have := HL.out; unfold wrap64; omega
            have hi0 : (0 ≤ (i : Int)) = True := eq_true (by omega)
            have hi1 : ((i : Int) < (n0 : Int)) = True := eq_true (by omega)
            have hi2 : (i < n0) = True := eq_true h1
            obtain ⟨ad, rfl, hE⟩ := at_fr (by have := HR.out; rwa [← HN0.out] at this) i h1
            obtain ⟨x, hx⟩ : ∃ x, x = l0.getD i z26 := ⟨_, rfl⟩
            rw [← hx] at hE
            have HX := Aside0.mk (show fOk x by
              rw [hx]
              exact HF.out _ (getD_mem (by rw [← HN0.out]; exact h1)))
            have HE := Aside0.mk hE
            have H15 := Aside0.mk (And.intro h1 h2)
            obtain ⟨g, hg, hgs⟩ := great_tot x
            have HG := Aside0.mk hg
            have HGS := Aside0.mk hgs
            obtain ⟨s, er, hpk, his, hsz⟩ := Pl.pk_of x.f0 x.f1 x.f2 x.f3 x.f4 x.f5 x.f6 x.f7 HX.out.1 HX.out.2.1 HX.out.2.2.1 HX.out.2.2.2
            have HPK := Aside0.mk hpk
            have HIS := Aside0.mk his
            have HSZ := Aside0.mk hsz
            clear hx hE hg hgs h1 h2 hpk his hsz
            obtain ⟨e0, e1, e2, e3, e4, e5, e6, e7⟩ := HE.out _ HB.out
            cases g with
            | true =>
              clear hwn hwi
              go_wp2_with (first | (go_at_call 11; ((with_reducible refine (tallboylaw29_Great.calls x.f0 x.f1 x.f2 x.f3 x.f4 x.f5 x.f6 x.f7 true _ HG.out).mono ?_); rintro e w3 ⟨rfl, hb⟩; replace HI := Aside0.mk (HI.out.below hb); replace HB := Aside0.mk (below_step HB.out hb); clear hb; obtain ⟨e0, e1, e2, e3, e4, e5, e6, e7⟩ := HE.out _ HB.out)))
              go_ret
              exact ⟨rfl, HB.out⟩
            | false =>
              have HSS := Aside0.mk (show s.size ≤ 60024 by have := HGS.out rfl; have := HSZ.out; omega)
              clear HSZ HGS
              by_cases he : er = 0
              · subst he
                have HPP := Aside0.mk (HIS.out rfl)
                clear HIS
                have kb := fun W => print_bytes (P := Try.prog) 9 46 5 Try.underlying9 Try.underlying46 Try.underlying5 s W
                go_wp2_with (first | (go_at_call 11; ((with_reducible refine (tallboylaw29_Great.calls x.f0 x.f1 x.f2 x.f3 x.f4 x.f5 x.f6 x.f7 false _ HG.out).mono ?_); rintro e w3 ⟨rfl, hb⟩; replace HI := Aside0.mk (HI.out.below hb); replace HB := Aside0.mk (below_step HB.out hb); clear hb; obtain ⟨e0, e1, e2, e3, e4, e5, e6, e7⟩ := HE.out _ HB.out)) | (go_at_call 13; ((with_reducible refine (tallboylaw29_To.calls x.f0 x.f1 x.f2 x.f3 x.f4 x.f5 x.f6 x.f7 x.f0 x.f1 x.f2 x.f3 x.f4 x.f5 x.f6 x.f7 _ rfl).mono ?_); rintro e w4 ⟨rfl, hb⟩; replace HI := Aside0.mk (HI.out.below hb); replace HB := Aside0.mk (below_step HB.out hb); clear hb)) | (go_at_call 12; ((with_reducible refine (frame_Pack.calls x.f0 x.f1 x.f2 x.f3 x.f4 x.f5 x.f6 x.f7 s 0 _ HPK.out).mono ?_); rintro e w5 ⟨rfl, hb⟩; replace HI := Aside0.mk (HI.out.below hb); replace HB := Aside0.mk (below_step HB.out hb); clear hb)) | (go_at_call 19; ((with_reducible refine (FRd.feedN w _ ga ps.flatten 0 _ _ s.size (Pl.bytesL s) (Pl.bytesL_len s) (HI.out.below (bytes_below (Below.refl _ _) (Nat.le_refl _) 5 s)) (bytes_below HB.out HB.out.size 5 s) (bytes_C _ s (by have := HSS.out; omega)) (by have := HL.out; have := H15.out; omega) (by have := HSS.out; omega) rfl (by have := HL.out; have := HSS.out; have := H15.out; omega)).mono ?_); rintro e w6 ⟨rfl, hI, hB, hK⟩; replace HI := Aside0.mk hI; replace HB := Aside0.mk hB; clear hI hB hK)))
                go_roundg qo
                case measure => omega
                case rel => exact ⟨i + 1, ps ++ [Pl.bytesL s], (congrArg (Value.int .i64) hwn).trans (by rw [List.length_append]; rfl), congrArg (Value.int .i64) hwi, ⟨by have := HQ.out; have := H15.out; omega⟩, ⟨by have := HL.out; have := HSS.out; rw [List.length_append, List.flatten_append, List.length_append, show (List.flatten [Pl.bytesL s]).length = s.size by simp [Pl.bytesL_len], List.length_singleton]; omega⟩, ⟨fun p hp => by
                  rcases List.mem_append.1 hp with h | h
                  · exact HP.out p h
                  · obtain rfl := List.mem_singleton.1 h; exact HPP.out⟩, ⟨by have := HI.out; rwa [show (ps ++ [Pl.bytesL s]).flatten = ps.flatten ++ Pl.bytesL s by simp]⟩, HB⟩
              · have he0 : (er == 0) = false := beq_eq_false_iff_ne.2 he
                clear he HIS hwn
                go_wp2_with (first | (go_at_call 11; ((with_reducible refine (tallboylaw29_Great.calls x.f0 x.f1 x.f2 x.f3 x.f4 x.f5 x.f6 x.f7 false _ HG.out).mono ?_); rintro e w3 ⟨rfl, hb⟩; replace HI := Aside0.mk (HI.out.below hb); replace HB := Aside0.mk (below_step HB.out hb); clear hb; obtain ⟨e0, e1, e2, e3, e4, e5, e6, e7⟩ := HE.out _ HB.out)) | (go_at_call 13; ((with_reducible refine (tallboylaw29_To.calls x.f0 x.f1 x.f2 x.f3 x.f4 x.f5 x.f6 x.f7 x.f0 x.f1 x.f2 x.f3 x.f4 x.f5 x.f6 x.f7 _ rfl).mono ?_); rintro e w4 ⟨rfl, hb⟩; replace HI := Aside0.mk (HI.out.below hb); replace HB := Aside0.mk (below_step HB.out hb); clear hb)) | (go_at_call 12; ((with_reducible refine (frame_Pack.calls x.f0 x.f1 x.f2 x.f3 x.f4 x.f5 x.f6 x.f7 s er _ HPK.out).mono ?_); rintro e w5 ⟨rfl, hb⟩; replace HI := Aside0.mk (HI.out.below hb); replace HB := Aside0.mk (below_step HB.out hb); clear hb)))
                go_roundg qo
                case measure => omega
                case rel => exact ⟨i + 1, ps, rfl, congrArg (Value.int .i64) hwi, ⟨by have := HQ.out; have := H15.out; omega⟩, ⟨by have := HL.out; omega⟩, HP, HI, HB⟩
          · rcases (show (i < n0 ∧ ¬ i < 5) ∨ ¬ i < n0 by omega) with ⟨h1, h2⟩ | h1
            · have hd1 : decide ((i : Int) < (n0 : Int)) = true := decide_eq_true (by omega)
              have hd1b : decide (i < n0) = true := decide_eq_true h1
              have hd2 : decide ((i : Int) < 5) = false := decide_eq_false (by omega)
              have hd2b : decide (i < 5) = false := decide_eq_false h2
              clear h1 h2 h12
              go_wp2_with (first | (go_at_call 19; ((with_reducible refine (FRd.feedN w _ ga ps.flatten 0 _ _ 1 [b] rfl (HI.out.below (below_alloc (Below.refl _ _) _)) (below_alloc HB.out _) (one_C _ b) (by have := HL.out; have := HQ.out; omega) (by omega) rfl (by have := HL.out; have := HQ.out; omega)).mono ?_); rintro e w6 ⟨rfl, hI, hB, hK⟩; replace HI := Aside0.mk hI; replace HB := Aside0.mk hB; clear hI hB hK)))
              go_loopg [12] ps.length (fun q v12 wi => ∃ (j : Nat), v12 = .int .i64 (j : Int) ∧ Aside0 (q + j = ps.length) ∧ Aside0 (FRd w wi ga ((ps.drop j).flatten ++ [b]) 0) ∧ Aside0 (Below w.heap.size w wi))
              case atStart => exact ⟨0, rfl, ⟨by omega⟩, HI, HB⟩
              case round =>
                clear HI HB
                obtain ⟨j, rfl, HJ, HI, HB⟩ := hrel
                by_cases hj : j < ps.length
                · obtain ⟨qo, hqo⟩ : ∃ qo, gk = qo + 1 := ⟨ps.length - j - 1, by have := HJ.out; omega⟩
                  subst hqo
                  have hj1 : decide ((j : Int) < (ps.length : Int)) = true := decide_eq_true (by omega)
                  have hj2 : decide (j < ps.length) = true := decide_eq_true hj
                  have HWJ := Aside0.mk (show wrap64 ((j : Int) + 1) = ((j + 1 : Nat) : Int) by have := HL.out; have := HQ.out; unfold wrap64; omega)
                  have hlen := flat_len ps j
                  obtain ⟨p, hp, hdr⟩ : ∃ p ∈ ps, ps.drop j = p :: ps.drop (j + 1) := ⟨ps[j], List.getElem_mem hj, List.drop_eq_getElem_cons hj⟩
                  rw [hdr, List.flatten_cons, List.append_assoc] at HI
                  obtain ⟨x1, x2, x3, x4, x5, x6, x7, x8, hnx⟩ := FRd.next_pk p ((ps.drop (j + 1)).flatten ++ [b]) (HP.out _ hp) (by
                    rw [← List.append_assoc, ← List.flatten_cons, ← hdr, List.length_append, List.length_singleton]
                    have := HL.out
                    have := HQ.out
                    omega)
                  have HNX := Aside0.mk hnx
                  clear hnx hj hlen hp hdr
                  go_wp2_with (first | (go_at_call 21; ((with_reducible refine (HNX.out w _ ga HI.out HB.out).mono ?_); rintro e w7 ⟨rfl, hI, hB, hK⟩; replace HI := Aside0.mk hI; replace HB := Aside0.mk hB; clear hI hB hK)) | ((with_reducible refine gate_dst (N := 13) rfl ?_); (refine bE 13 #[.bool false, .int .u8 0, .int .u16 0, .int .u32 0, .int .u64 0, .string ⟨#[]⟩, .string ⟨#[]⟩, .string ⟨#[]⟩] 31 rfl rfl ?_; intro gx1 hgx wx1 hbox hb; have BX := Aside0.mk hbox; replace HI := Aside0.mk (HI.out.below hb); have HGX := Aside0.mk (show w.heap.size ≤ gx1 by rw [hgx]; exact HB.out.size); replace HB := Aside0.mk (below_step HB.out hb); have HXA := Aside0.mk (HI.out.blk BX.out (by decide)); clear hgx hbox hb; obtain ⟨hczx, hfzx⟩ := d8 BX)) | ((with_reducible refine gate_dst (N := 89) rfl ?_); obtain ⟨w8_1, hw8⟩ : ∃ w8, w8 = ((((((((wx1.setCell ⟨gx1, 0, none⟩ (.bool x1)).setCell ⟨gx1, 1, none⟩ (.int .u8 x2)).setCell ⟨gx1, 2, none⟩ (.int .u16 x3)).setCell ⟨gx1, 3, none⟩ (.int .u32 x4)).setCell ⟨gx1, 4, none⟩ (.int .u64 x5)).setCell ⟨gx1, 5, none⟩ (.string x6)).setCell ⟨gx1, 6, none⟩ (.string x7)).setCell ⟨gx1, 7, none⟩ (.string x8)) := ⟨_, rfl⟩; have HI8 := Aside0.mk (show FRd w w8_1 ga _ _ by rw [hw8]; exact HI.out.keep (b := gx1) BX.out (by decide) HXA.out (by with_reducible repeat (first | exact KeepBut.refl _ _ _ | refine KeepBut.set_ ?_ _ _))); have HB8 := Aside0.mk (show Below w.heap.size w w8_1 by rw [hw8]; exact bH HB.out); rw [← hw8]; clear hw8 hczx hfzx BX HXA HGX HI HB; rename Aside0 (FRd w _ ga _ _) => HI; rename Aside0 (Below w.heap.size w w8_1) => HB; have hwj := HWJ.out))
                  go_roundg qo
                  case measure => omega
                  case rel => exact ⟨j + 1, congrArg (Value.int .i64) HWJ.out, ⟨by have := HJ.out; omega⟩, HI, HB⟩
                · have hj1 : decide ((j : Int) < (ps.length : Int)) = false := decide_eq_false (by omega)
                  have hj2 : decide (j < ps.length) = false := decide_eq_false hj
                  rw [List.drop_eq_nil_of_le (by omega), List.flatten_nil, List.nil_append] at HI
                  clear hj
                  go_wp2_with (first | (go_at_call 21; ((with_reducible refine (FRd.next_b b HBR.out.1 HBR.out.2 H89.out.1 H89.out.2 w _ ga HI.out HB.out).mono ?_); rintro e w7 ⟨rfl, hI, hB, hK⟩; replace HI := Aside0.mk hI; replace HB := Aside0.mk hB; clear hI hB hK)) | ((with_reducible refine gate_dst (N := 16) rfl ?_); (refine bE 16 #[.bool false, .int .u8 0, .int .u16 0, .int .u32 0, .int .u64 0, .string ⟨#[]⟩, .string ⟨#[]⟩, .string ⟨#[]⟩] 31 rfl rfl ?_; intro gx2 hgx wx2 hbox hb; have BX := Aside0.mk hbox; replace HI := Aside0.mk (HI.out.below hb); have HGX := Aside0.mk (show w.heap.size ≤ gx2 by rw [hgx]; exact HB.out.size); replace HB := Aside0.mk (below_step HB.out hb); have HXA := Aside0.mk (HI.out.blk BX.out (by decide)); clear hgx hbox hb; obtain ⟨hczx, hfzx⟩ := d8 BX)) | ((with_reducible refine gate_dst (N := 101) rfl ?_); obtain ⟨w8_2, hw8⟩ : ∃ w8, w8 = ((((((((wx2.setCell ⟨gx2, 0, none⟩ (.bool false)).setCell ⟨gx2, 1, none⟩ (.int .u8 0)).setCell ⟨gx2, 2, none⟩ (.int .u16 0)).setCell ⟨gx2, 3, none⟩ (.int .u32 0)).setCell ⟨gx2, 4, none⟩ (.int .u64 0)).setCell ⟨gx2, 5, none⟩ (.string ⟨#[]⟩)).setCell ⟨gx2, 6, none⟩ (.string ⟨#[]⟩)).setCell ⟨gx2, 7, none⟩ (.string ⟨#[]⟩)) := ⟨_, rfl⟩; have HI8 := Aside0.mk (show FRd w w8_2 ga _ _ by rw [hw8]; exact HI.out.keep (b := gx2) BX.out (by decide) HXA.out (by with_reducible repeat (first | exact KeepBut.refl _ _ _ | refine KeepBut.set_ ?_ _ _))); have HB8 := Aside0.mk (show Below w.heap.size w w8_2 by rw [hw8]; exact bH HB.out); rw [← hw8]; clear hw8 hczx hfzx BX HXA HGX HI HB; rename Aside0 (FRd w _ ga _ _) => HI; rename Aside0 (Below w.heap.size w w8_2) => HB) | ((with_reducible refine gate_builtin (b := .append) (xs := #[.tmp 101, .tmp 102]) rfl ?_); at_builtin; (have hb9 : Below w8_2.heap.size w8_2 (w8_2.alloc (.cells #[] 5)) := below_alloc (Below.refl _ _) _; refine fr_append (w0 := w) w.heap.size rfl (.tmp 101) (.tmp 102) 46 5 (.int .u8 0) 1 rfl Try.underlying46 info_u8 rfl (by decide) (.slice (some ⟨w8_2.heap.size, 0, none⟩) 0 0) [] l2 A2 n2 c2 (fun _ => True) rfl rfl ⟨fun _ _ => trivial, [], ⟨rfl, .inl ⟨rfl, _, rfl, fun a ha => by cases ha; exact ⟨HB.out.size, _, blk_new w8_2 (.cells #[] 5)⟩⟩⟩, Reps.none _ _⟩ (Kd.C_below (by have := HR2.out; rwa [← HN2.out] at this) (below_alloc HB.out (.cells #[] 5))) (fun _ _ => trivial) (below_alloc HB.out _) (below_alloc HB.out (.cells #[] 5)).size (by have := H2.out; simp; omega) ?_; intro v1 w1 hq1 hb1 hg1 hat1; rw [List.nil_append] at hq1; obtain ⟨A1, c1, rfl, hc1⟩ := Kd.Q_slice hq1; have HQ1 := Aside0.mk hq1; replace HI := Aside0.mk (FRd.step (W := w8_2) HI.out hb9 hg1 (Nat.le_refl _)); replace HB := Aside0.mk hb1; clear hb9 hq1 hb1 hg1 hat1 hc1)) | (go_at_call 19; ((with_reducible refine (FRd.feedT w _ ga [b] 6 A1 c1 _ l2 rfl HI.out HB.out (Kd.Q_reads' HQ1.out).2.2 (by simp) (by have := H2.out; have := HN2.out; omega) (by decide)).mono ?_); rintro e w6 ⟨rfl, hI, hB, hK⟩; replace HI := Aside0.mk hI; replace HB := Aside0.mk hB; clear hI hB hK HQ1)) | (go_at_call 21; ((with_reducible refine (FRd.next_told w _ ga [b] 6 HI.out HB.out (by decide)).mono ?_); rintro e w7 ⟨rfl, hI, hB, hK⟩; replace HI := Aside0.mk hI; replace HB := Aside0.mk hB; clear hI hB hK)) | ((with_reducible refine gate_dst (N := 20) rfl ?_); (refine bE 20 #[.bool false, .int .u8 0, .int .u16 0, .int .u32 0, .int .u64 0, .string ⟨#[]⟩, .string ⟨#[]⟩, .string ⟨#[]⟩] 31 rfl rfl ?_; intro gx3 hgx wx3 hbox hb; have BX := Aside0.mk hbox; replace HI := Aside0.mk (HI.out.below hb); have HGX := Aside0.mk (show w.heap.size ≤ gx3 by rw [hgx]; exact HB.out.size); replace HB := Aside0.mk (below_step HB.out hb); have HXA := Aside0.mk (HI.out.blk BX.out (by decide)); clear hgx hbox hb; obtain ⟨hczx, hfzx⟩ := d8 BX)) | ((with_reducible refine gate_dst (N := 112) rfl ?_); obtain ⟨w8_3, hw8⟩ : ∃ w8, w8 = ((((((((wx3.setCell ⟨gx3, 0, none⟩ (.bool false)).setCell ⟨gx3, 1, none⟩ (.int .u8 0)).setCell ⟨gx3, 2, none⟩ (.int .u16 0)).setCell ⟨gx3, 3, none⟩ (.int .u32 0)).setCell ⟨gx3, 4, none⟩ (.int .u64 0)).setCell ⟨gx3, 5, none⟩ (.string ⟨#[]⟩)).setCell ⟨gx3, 6, none⟩ (.string ⟨#[]⟩)).setCell ⟨gx3, 7, none⟩ (.string ⟨#[]⟩)) := ⟨_, rfl⟩; have HI8 := Aside0.mk (show FRd w w8_3 ga _ _ by rw [hw8]; exact HI.out.keep (b := gx3) BX.out (by decide) HXA.out (by with_reducible repeat (first | exact KeepBut.refl _ _ _ | refine KeepBut.set_ ?_ _ _))); have HB8 := Aside0.mk (show Below w.heap.size w w8_3 by rw [hw8]; exact bH HB.out); rw [← hw8]; clear hw8 hczx hfzx BX HXA HGX HI HB; rename Aside0 (FRd w _ ga _ _) => HI; rename Aside0 (Below w.heap.size w w8_3) => HB))
                  go_ret
                  exact ⟨rfl, HB.out⟩
            · have hd1 : decide ((i : Int) < (n0 : Int)) = false := decide_eq_false (by omega)
              have hd1b : decide (i < n0) = false := decide_eq_false h1
              clear h1 h12
              go_wp2_with (first | (go_at_call 19; ((with_reducible refine (FRd.feedN w _ ga ps.flatten 0 _ _ 1 [b] rfl (HI.out.below (below_alloc (Below.refl _ _) _)) (below_alloc HB.out _) (one_C _ b) (by have := HL.out; have := HQ.out; omega) (by omega) rfl (by have := HL.out; have := HQ.out; omega)).mono ?_); rintro e w6 ⟨rfl, hI, hB, hK⟩; replace HI := Aside0.mk hI; replace HB := Aside0.mk hB; clear hI hB hK)))
              go_loopg [12] ps.length (fun q v12 wi => ∃ (j : Nat), v12 = .int .i64 (j : Int) ∧ Aside0 (q + j = ps.length) ∧ Aside0 (FRd w wi ga ((ps.drop j).flatten ++ [b]) 0) ∧ Aside0 (Below w.heap.size w wi))
              case atStart => exact ⟨0, rfl, ⟨by omega⟩, HI, HB⟩
              case round =>
                clear HI HB
                obtain ⟨j, rfl, HJ, HI, HB⟩ := hrel
                by_cases hj : j < ps.length
                · obtain ⟨qo, hqo⟩ : ∃ qo, gk = qo + 1 := ⟨ps.length - j - 1, by have := HJ.out; omega⟩
                  subst hqo
                  have hj1 : decide ((j : Int) < (ps.length : Int)) = true := decide_eq_true (by omega)
                  have hj2 : decide (j < ps.length) = true := decide_eq_true hj
                  have HWJ := Aside0.mk (show wrap64 ((j : Int) + 1) = ((j + 1 : Nat) : Int) by have := HL.out; have := HQ.out; unfold wrap64; omega)
                  have hlen := flat_len ps j
                  obtain ⟨p, hp, hdr⟩ : ∃ p ∈ ps, ps.drop j = p :: ps.drop (j + 1) := ⟨ps[j], List.getElem_mem hj, List.drop_eq_getElem_cons hj⟩
                  rw [hdr, List.flatten_cons, List.append_assoc] at HI
                  obtain ⟨x1, x2, x3, x4, x5, x6, x7, x8, hnx⟩ := FRd.next_pk p ((ps.drop (j + 1)).flatten ++ [b]) (HP.out _ hp) (by
                    rw [← List.append_assoc, ← List.flatten_cons, ← hdr, List.length_append, List.length_singleton]
                    have := HL.out
                    have := HQ.out
                    omega)
                  have HNX := Aside0.mk hnx
                  clear hnx hj hlen hp hdr
                  go_wp2_with (first | (go_at_call 21; ((with_reducible refine (HNX.out w _ ga HI.out HB.out).mono ?_); rintro e w7 ⟨rfl, hI, hB, hK⟩; replace HI := Aside0.mk hI; replace HB := Aside0.mk hB; clear hI hB hK)) | ((with_reducible refine gate_dst (N := 13) rfl ?_); (refine bE 13 #[.bool false, .int .u8 0, .int .u16 0, .int .u32 0, .int .u64 0, .string ⟨#[]⟩, .string ⟨#[]⟩, .string ⟨#[]⟩] 31 rfl rfl ?_; intro gx1 hgx wx1 hbox hb; have BX := Aside0.mk hbox; replace HI := Aside0.mk (HI.out.below hb); have HGX := Aside0.mk (show w.heap.size ≤ gx1 by rw [hgx]; exact HB.out.size); replace HB := Aside0.mk (below_step HB.out hb); have HXA := Aside0.mk (HI.out.blk BX.out (by decide)); clear hgx hbox hb; obtain ⟨hczx, hfzx⟩ := d8 BX)) | ((with_reducible refine gate_dst (N := 89) rfl ?_); obtain ⟨w8_1, hw8⟩ : ∃ w8, w8 = ((((((((wx1.setCell ⟨gx1, 0, none⟩ (.bool x1)).setCell ⟨gx1, 1, none⟩ (.int .u8 x2)).setCell ⟨gx1, 2, none⟩ (.int .u16 x3)).setCell ⟨gx1, 3, none⟩ (.int .u32 x4)).setCell ⟨gx1, 4, none⟩ (.int .u64 x5)).setCell ⟨gx1, 5, none⟩ (.string x6)).setCell ⟨gx1, 6, none⟩ (.string x7)).setCell ⟨gx1, 7, none⟩ (.string x8)) := ⟨_, rfl⟩; have HI8 := Aside0.mk (show FRd w w8_1 ga _ _ by rw [hw8]; exact HI.out.keep (b := gx1) BX.out (by decide) HXA.out (by with_reducible repeat (first | exact KeepBut.refl _ _ _ | refine KeepBut.set_ ?_ _ _))); have HB8 := Aside0.mk (show Below w.heap.size w w8_1 by rw [hw8]; exact bH HB.out); rw [← hw8]; clear hw8 hczx hfzx BX HXA HGX HI HB; rename Aside0 (FRd w _ ga _ _) => HI; rename Aside0 (Below w.heap.size w w8_1) => HB; have hwj := HWJ.out))
                  go_roundg qo
                  case measure => omega
                  case rel => exact ⟨j + 1, congrArg (Value.int .i64) HWJ.out, ⟨by have := HJ.out; omega⟩, HI, HB⟩
                · have hj1 : decide ((j : Int) < (ps.length : Int)) = false := decide_eq_false (by omega)
                  have hj2 : decide (j < ps.length) = false := decide_eq_false hj
                  rw [List.drop_eq_nil_of_le (by omega), List.flatten_nil, List.nil_append] at HI
                  clear hj
                  go_wp2_with (first | (go_at_call 21; ((with_reducible refine (FRd.next_b b HBR.out.1 HBR.out.2 H89.out.1 H89.out.2 w _ ga HI.out HB.out).mono ?_); rintro e w7 ⟨rfl, hI, hB, hK⟩; replace HI := Aside0.mk hI; replace HB := Aside0.mk hB; clear hI hB hK)) | ((with_reducible refine gate_dst (N := 16) rfl ?_); (refine bE 16 #[.bool false, .int .u8 0, .int .u16 0, .int .u32 0, .int .u64 0, .string ⟨#[]⟩, .string ⟨#[]⟩, .string ⟨#[]⟩] 31 rfl rfl ?_; intro gx2 hgx wx2 hbox hb; have BX := Aside0.mk hbox; replace HI := Aside0.mk (HI.out.below hb); have HGX := Aside0.mk (show w.heap.size ≤ gx2 by rw [hgx]; exact HB.out.size); replace HB := Aside0.mk (below_step HB.out hb); have HXA := Aside0.mk (HI.out.blk BX.out (by decide)); clear hgx hbox hb; obtain ⟨hczx, hfzx⟩ := d8 BX)) | ((with_reducible refine gate_dst (N := 101) rfl ?_); obtain ⟨w8_2, hw8⟩ : ∃ w8, w8 = ((((((((wx2.setCell ⟨gx2, 0, none⟩ (.bool false)).setCell ⟨gx2, 1, none⟩ (.int .u8 0)).setCell ⟨gx2, 2, none⟩ (.int .u16 0)).setCell ⟨gx2, 3, none⟩ (.int .u32 0)).setCell ⟨gx2, 4, none⟩ (.int .u64 0)).setCell ⟨gx2, 5, none⟩ (.string ⟨#[]⟩)).setCell ⟨gx2, 6, none⟩ (.string ⟨#[]⟩)).setCell ⟨gx2, 7, none⟩ (.string ⟨#[]⟩)) := ⟨_, rfl⟩; have HI8 := Aside0.mk (show FRd w w8_2 ga _ _ by rw [hw8]; exact HI.out.keep (b := gx2) BX.out (by decide) HXA.out (by with_reducible repeat (first | exact KeepBut.refl _ _ _ | refine KeepBut.set_ ?_ _ _))); have HB8 := Aside0.mk (show Below w.heap.size w w8_2 by rw [hw8]; exact bH HB.out); rw [← hw8]; clear hw8 hczx hfzx BX HXA HGX HI HB; rename Aside0 (FRd w _ ga _ _) => HI; rename Aside0 (Below w.heap.size w w8_2) => HB) | ((with_reducible refine gate_builtin (b := .append) (xs := #[.tmp 101, .tmp 102]) rfl ?_); at_builtin; (have hb9 : Below w8_2.heap.size w8_2 (w8_2.alloc (.cells #[] 5)) := below_alloc (Below.refl _ _) _; refine fr_append (w0 := w) w.heap.size rfl (.tmp 101) (.tmp 102) 46 5 (.int .u8 0) 1 rfl Try.underlying46 info_u8 rfl (by decide) (.slice (some ⟨w8_2.heap.size, 0, none⟩) 0 0) [] l2 A2 n2 c2 (fun _ => True) rfl rfl ⟨fun _ _ => trivial, [], ⟨rfl, .inl ⟨rfl, _, rfl, fun a ha => by cases ha; exact ⟨HB.out.size, _, blk_new w8_2 (.cells #[] 5)⟩⟩⟩, Reps.none _ _⟩ (Kd.C_below (by have := HR2.out; rwa [← HN2.out] at this) (below_alloc HB.out (.cells #[] 5))) (fun _ _ => trivial) (below_alloc HB.out _) (below_alloc HB.out (.cells #[] 5)).size (by have := H2.out; simp; omega) ?_; intro v1 w1 hq1 hb1 hg1 hat1; rw [List.nil_append] at hq1; obtain ⟨A1, c1, rfl, hc1⟩ := Kd.Q_slice hq1; have HQ1 := Aside0.mk hq1; replace HI := Aside0.mk (FRd.step (W := w8_2) HI.out hb9 hg1 (Nat.le_refl _)); replace HB := Aside0.mk hb1; clear hb9 hq1 hb1 hg1 hat1 hc1)) | (go_at_call 19; ((with_reducible refine (FRd.feedT w _ ga [b] 6 A1 c1 _ l2 rfl HI.out HB.out (Kd.Q_reads' HQ1.out).2.2 (by simp) (by have := H2.out; have := HN2.out; omega) (by decide)).mono ?_); rintro e w6 ⟨rfl, hI, hB, hK⟩; replace HI := Aside0.mk hI; replace HB := Aside0.mk hB; clear hI hB hK HQ1)) | (go_at_call 21; ((with_reducible refine (FRd.next_told w _ ga [b] 6 HI.out HB.out (by decide)).mono ?_); rintro e w7 ⟨rfl, hI, hB, hK⟩; replace HI := Aside0.mk hI; replace HB := Aside0.mk hB; clear hI hB hK)) | ((with_reducible refine gate_dst (N := 20) rfl ?_); (refine bE 20 #[.bool false, .int .u8 0, .int .u16 0, .int .u32 0, .int .u64 0, .string ⟨#[]⟩, .string ⟨#[]⟩, .string ⟨#[]⟩] 31 rfl rfl ?_; intro gx3 hgx wx3 hbox hb; have BX := Aside0.mk hbox; replace HI := Aside0.mk (HI.out.below hb); have HGX := Aside0.mk (show w.heap.size ≤ gx3 by rw [hgx]; exact HB.out.size); replace HB := Aside0.mk (below_step HB.out hb); have HXA := Aside0.mk (HI.out.blk BX.out (by decide)); clear hgx hbox hb; obtain ⟨hczx, hfzx⟩ := d8 BX)) | ((with_reducible refine gate_dst (N := 112) rfl ?_); obtain ⟨w8_3, hw8⟩ : ∃ w8, w8 = ((((((((wx3.setCell ⟨gx3, 0, none⟩ (.bool false)).setCell ⟨gx3, 1, none⟩ (.int .u8 0)).setCell ⟨gx3, 2, none⟩ (.int .u16 0)).setCell ⟨gx3, 3, none⟩ (.int .u32 0)).setCell ⟨gx3, 4, none⟩ (.int .u64 0)).setCell ⟨gx3, 5, none⟩ (.string ⟨#[]⟩)).setCell ⟨gx3, 6, none⟩ (.string ⟨#[]⟩)).setCell ⟨gx3, 7, none⟩ (.string ⟨#[]⟩)) := ⟨_, rfl⟩; have HI8 := Aside0.mk (show FRd w w8_3 ga _ _ by rw [hw8]; exact HI.out.keep (b := gx3) BX.out (by decide) HXA.out (by with_reducible repeat (first | exact KeepBut.refl _ _ _ | refine KeepBut.set_ ?_ _ _))); have HB8 := Aside0.mk (show Below w.heap.size w w8_3 by rw [hw8]; exact bH HB.out); rw [← hw8]; clear hw8 hczx hfzx BX HXA HGX HI HB; rename Aside0 (FRd w _ ga _ _) => HI; rename Aside0 (Below w.heap.size w w8_3) => HB))
                  go_ret
                  exact ⟨rfl, HB.out⟩
end Go.Proofs.Ytdepkgikdmlgiaa.P
