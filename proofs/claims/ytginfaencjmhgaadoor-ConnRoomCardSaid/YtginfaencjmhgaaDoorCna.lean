/- ConnRoom's walk. Conditions: the readings that each theorem names. -/
import Derived.Test.YtginfaencjmhgaaDoorCnt
import Derived.Test.YtginfaencjmhgaaDoorCnv
namespace Go.Proofs.YtginfaencjmhgaaDoor.Pl
open Go Go.RowKit Go.Proofs.YtginfaencjmhgaaDoor.P Go.Proofs.YtginfaencjmhgaaDoor.Lim Go.Proofs.YtginfaencjmhgaaDoorW.PrintWords
/-- A text whose bytes are all between 33 and 126. -/
theorem bytes_all {s : ByteArray} {p : UInt8 → Prop} (h : ∀ j : Nat, j < s.size → ∀ b : UInt8, (b.toNat : Int) = bt s (j : Int) → p b) : ∀ b ∈ s.data.toList, p b := by
  intro b hb
  obtain ⟨j, hj, rfl⟩ := List.mem_iff_getElem.1 hb
  have hj2 : j < s.size := by rw [size_eq] at hj; exact hj
  exact h j hj2 _ (bt_get s j hj).symm
theorem key_all {s : ByteArray} (h1 : 1 ≤ s.size) (h2 : s.size ≤ 32) (h : ∀ j : Nat, j < s.size → 33 ≤ bt s (j : Int) ∧ bt s (j : Int) ≤ 126) : keyP s = true ∧ (∀ b ∈ s.data.toList, b ≠ 32) ∧ (∀ b ∈ s.data.toList, b ≠ 10) := by
  have hb : ∀ b ∈ s.data.toList, 33 ≤ b.toNat ∧ b.toNat ≤ 126 := bytes_all fun j hj b hb => by have := h j hj; omega
  refine ⟨?_, fun b hm e => ?_, fun b hm e => ?_⟩
  · unfold keyP
    rw [Bool.and_eq_true]
    refine ⟨decide_eq_true ⟨h1, h2⟩, List.all_eq_true.2 fun b hm => ?_⟩
    have := hb b hm
    unfold okByte
    first | (simp only [Bool.and_eq_true, decide_eq_true_eq]; omega) | (simp; omega)
  · have := hb b hm
    subst e
    exact absurd this.1 (by decide)
  · have := hb b hm
    subst e
    exact absurd this.1 (by decide)
def CRLF : ByteArray := ⟨#[13, 10]⟩
theorem get_next (key : ByteArray) (rest : List Int) (h1 : 1 ≤ key.size) (h2 : key.size ≤ 32) (hb : keyP key = true) (h32 : ∀ b ∈ key.data.toList, b ≠ 32) (h10 : ∀ b ∈ key.data.toList, b ≠ 10) : nextV ⟨bytesL (GETS ++ key ++ CRLF) ++ rest, 0, false, none⟩ = (⟨rest, 0, false, none⟩, (1, 1, [key], 0, 0, ⟨#[]⟩, 0, 0, false), true) := by
  have hp := get_line key h1 h2 hb h32
  have e : bytesL (GETS ++ key ++ CRLF) ++ rest = bytesL (GETS ++ key) ++ (13 :: 10 :: rest) := by
    rw [bytesL_app (GETS ++ key), List.append_assoc]
    rfl
  rw [e, line_next (GETS ++ key) (fun b hm => ?_) rest (by rw [hp]; show (1 : Int) ≠ 2; decide), hp]
  · rfl
  · rw [app_list] at hm
    rcases List.mem_append.1 hm with hm | hm
    · intro e
      subst e
      exact absurd hm (by decide)
    · exact h10 b hm
end Go.Proofs.YtginfaencjmhgaaDoor.Pl
namespace Go.Proofs.YtginfaencjmhgaaDoor.P
open Go.RowKit Go.Proofs.YtginfaencjmhgaaDoorW.PrintWords Go.Proofs.YtginfaencjmhgaaDoorW.PrintLast Go.Proofs.YtginfaencjmhgaaDoorW.PrintMore Go.Proofs.YtginfaencjmhgaaDoor.Pl Go.Proofs.YtginfaencjmhgaaDoor.Lim
set_option linter.unusedVariables false
set_option linter.unusedSimpArgs false
theorem mod_0 (a : Int) (m : Nat) (hm : 0 < m) (hm2 : m ≤ 100000) : ∃ n : Nat, wrap64 ((IntKind.u64.wrap a).tmod (m : Int)) = (n : Int) ∧ n < m := by
  have u0 : 0 ≤ IntKind.u64.wrap a := by rw [IntKind.wrap_u64]; omega
  have t0 : 0 ≤ Int.tmod (IntKind.u64.wrap a) (m : Int) := Int.tmod_nonneg _ u0
  have t1 : Int.tmod (IntKind.u64.wrap a) (m : Int) < (m : Int) := Int.tmod_lt_of_pos _ (by omega)
  generalize Int.tmod (IntKind.u64.wrap a) (m : Int) = z at t0 t1
  exact ⟨z.toNat, by unfold wrap64; omega, by omega⟩
set_option maxHeartbeats 8000000 in
set_option maxRecDepth 100000 in
theorem cr_law (w0 : World) (a0 : Int) (a1 : ByteArray) (hL : LdS w0) :
    Calls Tryd.prog 7 #[.int .i64 a0, .string a1] w0 fun e w' => e = .returned (.bool true) ∧ Below w0.heap.size w0 w' := by
  have HL := Aside0.mk hL
  clear hL
  by_cases hs1 : (a1.size : Int) < 1
  · have d1 : decide ((a1.size : Int) < 1) = true := decide_eq_true hs1
    have d1' : decide (a1.size < 1) = true := decide_eq_true (by omega)
    go_enter Tryd.func7, Tryd.ntmps7
    go_wp2_with (first | (go_at_call 8; ((with_reducible refine (works_calls w0 HL.out).mono ?_); rintro e_ w1 ⟨rfl, hb⟩; have HB := Aside0.mk hb; clear hb)))
    go_ret
    exact ⟨rfl, HB.out⟩
  have d1 : decide ((a1.size : Int) < 1) = false := decide_eq_false hs1
  have d1' : decide (a1.size < 1) = false := decide_eq_false (by omega)
  by_cases hs2 : (a1.size : Int) > 32
  · have d2 : decide ((a1.size : Int) > 32) = true := decide_eq_true hs2
    have d2' : decide (32 < (a1.size : Int)) = true := decide_eq_true hs2
    go_enter Tryd.func7, Tryd.ntmps7
    go_wp2_with (first | (go_at_call 8; ((with_reducible refine (works_calls w0 HL.out).mono ?_); rintro e_ w1 ⟨rfl, hb⟩; have HB := Aside0.mk hb; clear hb)))
    go_ret
    exact ⟨rfl, HB.out⟩
  have d2 : decide ((a1.size : Int) > 32) = false := decide_eq_false hs2
  have d2' : decide (32 < (a1.size : Int)) = false := decide_eq_false hs2
  have G1 := trivial
  go_enter Tryd.func7, Tryd.ntmps7
  go_wp2_with (first | (go_at_call 8; ((with_reducible refine (works_calls w0 HL.out).mono ?_); rintro e_ w1 ⟨rfl, hb⟩; have HB := Aside0.mk hb; clear hb)))
  clear d1 d1' d2 d2'
  have HN := Aside0.mk (show 1 ≤ a1.size ∧ a1.size ≤ 32 by omega)
  clear hs1 hs2
  go_loopg [5] a1.size (fun q v5 wi => ∃ (i : Nat), v5 = .int .i64 (i : Int) ∧ Aside0 (q + i = a1.size) ∧ Aside0 (∀ j : Nat, j < i → 33 ≤ bt a1 (j : Int) ∧ bt a1 (j : Int) ≤ 126) ∧ Aside0 (Below w0.heap.size w0 wi))
  case atStart => exact ⟨0, rfl, ⟨rfl⟩, ⟨fun j hj => by omega⟩, HB⟩
  case round =>
    clear HB
    obtain ⟨i, rfl, HQ, HK, HB⟩ := hrel
    have hsz : a1.size ≤ 32 := HN.out.2
    by_cases hi : i < a1.size
    · have hi1 : decide ((i : Int) < (a1.size : Int)) = true := decide_eq_true (by omega)
      have hwi : wrap64 ((i : Int) + 1) = (i : Int) + 1 := by unfold wrap64; omega
      have p8 : 0 ≤ (i : Int) := by omega
      have q8 : (i : Int) < (a1.size : Int) := by omega
      have hx8 : ∀ h : i < a1.size, ((a1[i]'h).toNat : Int) = bt a1 (i : Int) := bt_at a1 (i : Int)
      replace p8 := eq_true p8
      replace q8 := eq_true q8
      by_cases hb1 : bt a1 (i : Int) < 33
      · have e1 : decide (bt a1 (i : Int) < 33) = true := decide_eq_true hb1
        have e2 : decide (bt a1 (i : Int) ≤ 32) = true := decide_eq_true (by omega)
        go_wp2
        go_ret
        exact ⟨rfl, HB.out⟩
      have e1 : decide (bt a1 (i : Int) < 33) = false := decide_eq_false hb1
      have e2 : decide (bt a1 (i : Int) ≤ 32) = false := decide_eq_false (by omega)
      by_cases hb2 : 126 < bt a1 (i : Int)
      · have e3 : decide (126 < bt a1 (i : Int)) = true := decide_eq_true hb2
        have e4 : decide (bt a1 (i : Int) > 126) = true := decide_eq_true hb2
        go_wp2
        go_ret
        exact ⟨rfl, HB.out⟩
      have e3 : decide (126 < bt a1 (i : Int)) = false := decide_eq_false hb2
      have e4 : decide (bt a1 (i : Int) > 126) = false := decide_eq_false hb2
      have HK2 := Aside0.mk (show ∀ j : Nat, j < i + 1 → 33 ≤ bt a1 (j : Int) ∧ bt a1 (j : Int) ≤ 126 from fun j hj => by
        by_cases hj2 : j < i
        · exact HK.out j hj2
        · obtain rfl : j = i := by omega
          omega)
      clear hb1 hb2
      go_wp2
      go_roundg (a1.size - (i + 1))
      case measure => have := HQ.out; omega
      case rel => exact ⟨i + 1, congrArg (Value.int .i64) (show ((i : Int) + 1) = ((i + 1 : Nat) : Int) by omega), ⟨by omega⟩, HK2, HB⟩
    · have hi1 : decide ((i : Int) < (a1.size : Int)) = false := decide_eq_false (by omega)
      obtain ⟨hky, hk32, hk10⟩ := key_all HN.out.1 hsz (fun j hj => HK.out j (by omega))
      obtain ⟨S, hS⟩ : ∃ S, S = GETS ++ a1 ++ CRLF := ⟨_, rfl⟩
      have hSz : S.size = a1.size + 6 := by rw [hS, ByteArray.size_append, ByteArray.size_append]; show 4 + _ + 2 = _; omega
      have hSb : (bytesL S).length = a1.size + 6 := by rw [bytesL_len, hSz]
      have hS2 : (ByteArray.mk #[103, 101, 116, 32]) ++ a1 ++ (ByteArray.mk #[13, 10]) = S := hS.symm
      have hF1 : s0.b.length + S.size ≤ 65536 := by show 0 + _ ≤ _; omega
      obtain ⟨n, hn_, hn3⟩ := mod_0 a0 3 (by decide) (by decide)
      have HNN := Aside0.mk (show wrap64 ((IntKind.u64.wrap a0).tmod 3) = (n : Int) from hn_)
      clear hn_
      have h1 := HN.out.1
      obtain ⟨m, hm⟩ : ∃ m, m = 65536 - S.size + n := ⟨_, rfl⟩
      have HMM := Aside0.mk (show wrap64 (65536 - (S.size : Int)) = 65536 - (S.size : Int) ∧ wrap64 (65536 - (S.size : Int) + (n : Int)) = (m : Int) by constructor <;> (unfold wrap64; omega))
      have HSZ := Aside0.mk (show S.size = a1.size + 6 ∧ (bytesL S).length = a1.size + 6 ∧ m = 65536 - S.size + n ∧ 1 ≤ a1.size ∧ n < 3 from ⟨hSz, hSb, hm, h1, hn3⟩)
      have G1 := trivial
      by_cases h0 : n = 0
      · have hn0 : ((n : Int) == 0) = true := beq_iff_eq.mpr (by omega)
        have hn1 : decide ((n : Int) > 0) = false := decide_eq_false (by omega)
        have hn2 : decide (0 < (n : Int)) = false := decide_eq_false (by omega)
        have hn4 : decide (0 < n) = false := decide_eq_false (by omega)
        obtain ⟨BS, hBS⟩ : ∃ B, B = bytesL S ++ List.replicate m 0 := ⟨_, rfl⟩
        have hBl : BS.length = 65536 := by rw [hBS, List.length_append, List.length_replicate]; omega
        have hF2 : (CS.mk (bytesL S) 0 false none).b.length + m ≤ 65536 := by show (bytesL S).length + m ≤ _; omega
        have hF5 : (CS.mk BS 0 false none).b.length ≤ 65536 := by show BS.length ≤ _; omega
        have hnx := get_next a1 (List.replicate m 0) h1 hsz hky hk32 hk10
        rw [← hS, ← hBS] at hnx
        have hBi : (BS.length : Int) = 65536 := by omega
        clear HQ HK hk32 hk10 hky hS hBl hSz hSb hm hn3
        have HBS := Aside0.mk hBS
        clear hBS
        have HN0 := Aside0.mk (And.intro hn0 (And.intro hn1 (And.intro hn2 hn4)))
        clear hn0 hn1 hn2 hn4 h0
        have hn := HNN.out
        obtain ⟨hm1, hm2⟩ := HMM.out
        go_wp2_with (first | (go_at_call 9; have hgd_ := G1; ((with_reducible refine (CRd.new w0 wr HB.out).mono ?_); rintro e_ w2 ⟨g, rfl, hI, hg, hB, hb⟩; have HI := Aside0.mk hI; replace HB := Aside0.mk hB; have kb := fun W => print_bytes (P := Tryd.prog) 9 22 5 Tryd.underlying9 Tryd.underlying22 Tryd.underlying5 S W; have G2 := trivial; clear hI hg hB hb G1 hgd_)) | (go_at_call 10; have hgd_ := G2; ((with_reducible refine (CRd.feed w0 _ _ g s0 _ _ S.size (bytesL S) (bytesL_len S) (HI.out.below (bytes_below (Below.refl _ _) (Nat.le_refl _) 5 S)) (bytes_below HB.out HB.out.size 5 S) (bytes_C w2 S (by clear hn hm1 hm2; have := HSZ.out; omega)) hF1).mono ?_); rintro e_ w3 ⟨rfl, own1, hI, hO, hk, hB⟩; replace HI := Aside0.mk (show CRd w0.heap.size w3 own1 g ⟨bytesL S, 0, false, none⟩ from hI); replace HB := Aside0.mk hB; have G3 := trivial; clear hI hO hk hB G2 hgd_)) | ((with_reducible refine gate_dst (N := 58) rfl ?_); have hgd_ := G3; ((try simp only [hn, hm1, hm2]); refine Kd.R_make kB (w0 := w0) w0.heap.size 5 rfl rfl 22 (.tmp 57) (.tmp 57) rfl (m : Int) rfl rfl Tryd.underlying22 (.int .u8 0) 1 info_u8 rfl (by decide) (by decide) (0 : Int) (okp := fun _ => False) (ok := fun _ => True) rfl (fun _ _ => trivial) trivial (by clear hn hm1 hm2; omega) (by clear hn hm1 hm2; simp only [Int.toNat_natCast]; have := HSZ.out; omega) HB.out HB.out.size ?_; intro v1 w4 hr hb hg hat; obtain ⟨gb, hgb, hge⟩ := hat; obtain ⟨cb, hcb⟩ := own_shape hr hgb; rw [show (List.replicate (m : Int).toNat (0 : Int)).length = m by simp] at hcb; subst hcb; rw [Int.toNat_natCast] at hr; replace HI := Aside0.mk (HI.out.below (row_grows (v := .slice none 0 0) hg)); have HC := Aside0.mk (show kB.C w4 (some ⟨gb, 0, none⟩) m (List.replicate m 0) by have h := (Kd.R_reads' hr).2.2; rwa [List.length_replicate] at h); replace HB := Aside0.mk hb; have G4 := trivial; obtain ⟨hn0, hn1, hn2, hn4⟩ := HN0.out; clear hr hb hg hgb hge G3 hgd_ hn hm1 hm2)) | (go_at_call 10; have hgd_ := G4; ((with_reducible refine (CRd.feed w0 _ own1 g ⟨bytesL S, 0, false, none⟩ _ cb m (List.replicate m 0) List.length_replicate HI.out HB.out HC.out hF2).mono ?_); rintro e_ w5 ⟨rfl, own2, hI, hO, hk, hB⟩; replace HI := Aside0.mk (show CRd w0.heap.size w5 own2 g ⟨BS, 0, false, none⟩ from HBS.out ▸ hI); replace HB := Aside0.mk hB; have G5 := trivial; clear hI hO hk hB HC G4 hgd_)) | (go_at_call 14; have hgd_ := G5; ((with_reducible refine (CRd.left w0 _ own2 g ⟨BS, 0, false, none⟩ HI.out HB.out).mono ?_); rintro e_ w6 ⟨rfl, hI, hb, hB⟩; replace HI := Aside0.mk hI; replace HB := Aside0.mk hB; have G6 := trivial; clear hI hb hB G5 hgd_)) | (go_at_call 13; have hgd_ := G6; (have hv_ := CRd.next w0 w6 own2 g ⟨BS, 0, false, none⟩ HI.out HB.out (good0 _) hF5 HL.out; rw [hnx] at hv_; dsimp only [askC] at hv_; (with_reducible refine hv_.mono ?_); rintro e_ w7 ⟨kv', own3, rfl, hI, hO, hR, hk, hB⟩; obtain ⟨A3, c3, rfl⟩ := Kd.R_slice hR; obtain ⟨ad, rfl, hk0⟩ := Kd.at_string (Kd.R_reads' hR).2.2 0 (by decide) (by simp); have HR := Aside0.mk hR; replace HB := Aside0.mk hB; have G7 := trivial; clear hv_ hI hO hR hk hk0 hB HI G6 hgd_)) | ((with_reducible refine gate_dst (N := 11) rfl ?_); have hgd_ := G7; (refine bE 11 #[.int .i64 0, .int .i64 0, .slice none 0 0, .int .u32 0, .int .i64 0, .string ⟨#[]⟩, .int .u64 0, .int .u64 0, .bool false] 39 rfl rfl ?_; intro gx hgx w8 hbox hb; have BX := Aside0.mk hbox; have HGX := Aside0.mk (show w0.heap.size ≤ gx by rw [hgx]; exact HB.out.size); replace HR := Aside0.mk (Kd.R_below HR.out hb); replace HB := Aside0.mk (below_step HB.out hb); obtain ⟨hcx, hfx⟩ := d9 BX; have G8 := trivial; clear hbox hb hgx G7 hgd_)) | ((with_reducible refine gate_dst (N := 71) rfl ?_); have hgd_ := G8; (obtain ⟨w9, hw_⟩ : ∃ w_, w_ = (((((((((w8.setCell ⟨gx, 0, none⟩ (.int .i64 1)).setCell ⟨gx, 1, none⟩ (.int .i64 1)).setCell ⟨gx, 2, none⟩ (.slice (some ad) 1 c3)).setCell ⟨gx, 3, none⟩ (.int .u32 0)).setCell ⟨gx, 4, none⟩ (.int .i64 0)).setCell ⟨gx, 5, none⟩ (.string ⟨#[]⟩)).setCell ⟨gx, 6, none⟩ (.int .u64 0)).setCell ⟨gx, 7, none⟩ (.int .u64 0)).setCell ⟨gx, 8, none⟩ (.bool false)) := ⟨_, rfl⟩; have kb_ : KeepBut w8 w9 gx none := hw_ ▸ (by with_reducible repeat (first | exact KeepBut.refl _ _ _ | refine KeepBut.set_ ?_ _ _)); have hb_ : Below w0.heap.size w0 w9 := hw_ ▸ bH HB.out; have bx_ : w9.heap[gx]? = some (.cells #[.int .i64 1, .int .i64 1, .slice (some ad) 1 c3, .int .u32 0, .int .i64 0, .string ⟨#[]⟩, .int .u64 0, .int .u64 0, .bool false] 39 (0, 0)) := (by rw [hw_]; exact bV BX.out); replace HR := Aside0.mk (Kd.R_mono (Kd.R_keep (Kd.R_types HR.out BX.out (by decide)) kb_ (fun _ h => h.2)) (fun _ h => h.1)); replace HB := Aside0.mk hb_; rw [← hw_]; replace BX := Aside0.mk bx_; clear hw_ hb_ hcx hfx kb_ bx_ HGX; obtain ⟨hcx, hfx⟩ := d9 BX; obtain ⟨ad2, he_, hk0⟩ := Kd.at_string (Kd.R_reads' HR.out).2.2 0 (by decide) (by simp); injection he_ with he_; subst he_; have hk0 : w9.cell? ad = some (.string a1) := (by have h : w9.cell? (ad.add 0) = some (.string a1) := hk0; rwa [add0] at h); clear G8 hgd_)))
        go_ret
        exact ⟨rfl, HB.out⟩
      · obtain ⟨BS, hBS⟩ : ∃ B, B = bytesL S := ⟨_, rfl⟩
        have hF2 : 65536 < (CS.mk (bytesL S) 0 false none).b.length + m := by show _ < (bytesL S).length + m; omega
        have hF3 : m ≤ 140737488355328 := by omega
        have hF4 : (CS.mk (bytesL S) 0 false none).b.length ≤ 65536 := by show (bytesL S).length ≤ _; omega
        have hF5 : (CS.mk BS 0 false none).b.length ≤ 65536 := by rw [hBS]; exact hF4
        have hnx := get_next a1 [] h1 hsz hky hk32 hk10
        rw [List.append_nil, ← hS, ← hBS] at hnx
        have hBi : ((BS.length : Int) == 65536) = false := beq_eq_false_iff_ne.mpr (by rw [hBS]; omega)
        have hn0 : ((n : Int) == 0) = false := beq_eq_false_iff_ne.mpr (by omega)
        have hn1 : decide ((n : Int) > 0) = true := decide_eq_true (by omega)
        have hn2 : decide (0 < (n : Int)) = true := decide_eq_true (by omega)
        have hn4 : decide (0 < n) = true := decide_eq_true (by omega)
        clear HQ HK hk32 hk10 hky hS hSz hSb hm hn3
        have HBS := Aside0.mk hBS
        clear hBS
        have HN0 := Aside0.mk (And.intro hn0 (And.intro hn1 (And.intro hn2 hn4)))
        clear hn0 hn1 hn2 hn4 h0
        have hn := HNN.out
        obtain ⟨hm1, hm2⟩ := HMM.out
        go_wp2_with (first | (go_at_call 9; have hgd_ := G1; ((with_reducible refine (CRd.new w0 wr HB.out).mono ?_); rintro e_ w2 ⟨g, rfl, hI, hg, hB, hb⟩; have HI := Aside0.mk hI; replace HB := Aside0.mk hB; have kb := fun W => print_bytes (P := Tryd.prog) 9 22 5 Tryd.underlying9 Tryd.underlying22 Tryd.underlying5 S W; have G2 := trivial; clear hI hg hB hb G1 hgd_)) | (go_at_call 10; have hgd_ := G2; ((with_reducible refine (CRd.feed w0 _ _ g s0 _ _ S.size (bytesL S) (bytesL_len S) (HI.out.below (bytes_below (Below.refl _ _) (Nat.le_refl _) 5 S)) (bytes_below HB.out HB.out.size 5 S) (bytes_C w2 S (by clear hn hm1 hm2; have := HSZ.out; omega)) hF1).mono ?_); rintro e_ w3 ⟨rfl, own1, hI, hO, hk, hB⟩; replace HI := Aside0.mk (show CRd w0.heap.size w3 own1 g ⟨bytesL S, 0, false, none⟩ from hI); replace HB := Aside0.mk hB; have G3 := trivial; clear hI hO hk hB G2 hgd_)) | ((with_reducible refine gate_dst (N := 58) rfl ?_); have hgd_ := G3; ((try simp only [hn, hm1, hm2]); refine Kd.R_make kB (w0 := w0) w0.heap.size 5 rfl rfl 22 (.tmp 57) (.tmp 57) rfl (m : Int) rfl rfl Tryd.underlying22 (.int .u8 0) 1 info_u8 rfl (by decide) (by decide) (0 : Int) (okp := fun _ => False) (ok := fun _ => True) rfl (fun _ _ => trivial) trivial (by clear hn hm1 hm2; omega) (by clear hn hm1 hm2; simp only [Int.toNat_natCast]; have := HSZ.out; omega) HB.out HB.out.size ?_; intro v1 w4 hr hb hg hat; obtain ⟨gb, hgb, hge⟩ := hat; obtain ⟨cb, hcb⟩ := own_shape hr hgb; rw [show (List.replicate (m : Int).toNat (0 : Int)).length = m by simp] at hcb; subst hcb; rw [Int.toNat_natCast] at hr; replace HI := Aside0.mk (HI.out.below (row_grows (v := .slice none 0 0) hg)); have HC := Aside0.mk (show kB.C w4 (some ⟨gb, 0, none⟩) m (List.replicate m 0) by have h := (Kd.R_reads' hr).2.2; rwa [List.length_replicate] at h); replace HB := Aside0.mk hb; have G4 := trivial; obtain ⟨hn0, hn1, hn2, hn4⟩ := HN0.out; clear hr hb hg hgb hge G3 hgd_ hn hm1 hm2)) | (go_at_call 10; have hgd_ := G4; ((with_reducible refine (CRd.feed_no w0 _ own1 g ⟨bytesL S, 0, false, none⟩ _ cb m HI.out HB.out hF3 hF4 hF2).mono ?_); rintro e_ w5 ⟨rfl, hI, hB, hb⟩; replace HI := Aside0.mk (show CRd w0.heap.size w5 own1 g ⟨BS, 0, false, none⟩ from HBS.out ▸ hI); replace HB := Aside0.mk hB; obtain ⟨own2, hown2⟩ : ∃ o, o = own1 := ⟨_, rfl⟩; rw [← hown2] at HI; have G5 := trivial; clear hown2 hI hb hB HC G4 hgd_)) | (go_at_call 14; have hgd_ := G5; ((with_reducible refine (CRd.left w0 _ own2 g ⟨BS, 0, false, none⟩ HI.out HB.out).mono ?_); rintro e_ w6 ⟨rfl, hI, hb, hB⟩; replace HI := Aside0.mk hI; replace HB := Aside0.mk hB; have G6 := trivial; clear hI hb hB G5 hgd_)) | (go_at_call 13; have hgd_ := G6; (have hv_ := CRd.next w0 w6 own2 g ⟨BS, 0, false, none⟩ HI.out HB.out (good0 _) hF5 HL.out; rw [hnx] at hv_; dsimp only [askC] at hv_; (with_reducible refine hv_.mono ?_); rintro e_ w7 ⟨kv', own3, rfl, hI, hO, hR, hk, hB⟩; obtain ⟨A3, c3, rfl⟩ := Kd.R_slice hR; obtain ⟨ad, rfl, hk0⟩ := Kd.at_string (Kd.R_reads' hR).2.2 0 (by decide) (by simp); have HR := Aside0.mk hR; replace HB := Aside0.mk hB; have G7 := trivial; clear hv_ hI hO hR hk hk0 hB HI G6 hgd_)) | ((with_reducible refine gate_dst (N := 11) rfl ?_); have hgd_ := G7; (refine bE 11 #[.int .i64 0, .int .i64 0, .slice none 0 0, .int .u32 0, .int .i64 0, .string ⟨#[]⟩, .int .u64 0, .int .u64 0, .bool false] 39 rfl rfl ?_; intro gx hgx w8 hbox hb; have BX := Aside0.mk hbox; have HGX := Aside0.mk (show w0.heap.size ≤ gx by rw [hgx]; exact HB.out.size); replace HR := Aside0.mk (Kd.R_below HR.out hb); replace HB := Aside0.mk (below_step HB.out hb); obtain ⟨hcx, hfx⟩ := d9 BX; have G8 := trivial; clear hbox hb hgx G7 hgd_)) | ((with_reducible refine gate_dst (N := 71) rfl ?_); have hgd_ := G8; (obtain ⟨w9, hw_⟩ : ∃ w_, w_ = (((((((((w8.setCell ⟨gx, 0, none⟩ (.int .i64 1)).setCell ⟨gx, 1, none⟩ (.int .i64 1)).setCell ⟨gx, 2, none⟩ (.slice (some ad) 1 c3)).setCell ⟨gx, 3, none⟩ (.int .u32 0)).setCell ⟨gx, 4, none⟩ (.int .i64 0)).setCell ⟨gx, 5, none⟩ (.string ⟨#[]⟩)).setCell ⟨gx, 6, none⟩ (.int .u64 0)).setCell ⟨gx, 7, none⟩ (.int .u64 0)).setCell ⟨gx, 8, none⟩ (.bool false)) := ⟨_, rfl⟩; have kb_ : KeepBut w8 w9 gx none := hw_ ▸ (by with_reducible repeat (first | exact KeepBut.refl _ _ _ | refine KeepBut.set_ ?_ _ _)); have hb_ : Below w0.heap.size w0 w9 := hw_ ▸ bH HB.out; have bx_ : w9.heap[gx]? = some (.cells #[.int .i64 1, .int .i64 1, .slice (some ad) 1 c3, .int .u32 0, .int .i64 0, .string ⟨#[]⟩, .int .u64 0, .int .u64 0, .bool false] 39 (0, 0)) := (by rw [hw_]; exact bV BX.out); replace HR := Aside0.mk (Kd.R_mono (Kd.R_keep (Kd.R_types HR.out BX.out (by decide)) kb_ (fun _ h => h.2)) (fun _ h => h.1)); replace HB := Aside0.mk hb_; rw [← hw_]; replace BX := Aside0.mk bx_; clear hw_ hb_ hcx hfx kb_ bx_ HGX; obtain ⟨hcx, hfx⟩ := d9 BX; obtain ⟨ad2, he_, hk0⟩ := Kd.at_string (Kd.R_reads' HR.out).2.2 0 (by decide) (by simp); injection he_ with he_; subst he_; have hk0 : w9.cell? ad = some (.string a1) := (by have h : w9.cell? (ad.add 0) = some (.string a1) := hk0; rwa [add0] at h); clear G8 hgd_)))
        go_ret
        exact ⟨rfl, HB.out⟩
end Go.Proofs.YtginfaencjmhgaaDoor.P
