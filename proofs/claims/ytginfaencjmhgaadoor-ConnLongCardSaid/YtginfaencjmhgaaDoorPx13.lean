/- Lean functions for the Go functions that the laws of this seat use, and the proofs that the Go code computes them; conditions: the readings that each theorem names. Written by a program. -/
import Derived.Test.YtginfaencjmhgaaDoorPx0
import Derived.Test.YtginfaencjmhgaaDoorPx2
import Derived.Test.YtginfaencjmhgaaDoorPx4
import Derived.Test.YtginfaencjmhgaaDoorPx5
import Derived.Test.YtginfaencjmhgaaDoorPx6
import Derived.Test.YtginfaencjmhgaaDoorPx9
import Derived.Test.YtginfaencjmhgaaDoorPx10
import Derived.Test.YtginfaencjmhgaaDoorPx11
import Derived.Test.YtginfaencjmhgaaDoorPx12
import Derived.Test.YtginfaencjmhgaaDoorShort
import Derived.Test.YtginfaencjmhgaaDoorLd
import Derived.Test.YtginfaencjmhgaaDoorWAll
import Derived.WalkKit
namespace Go.Proofs.YtginfaencjmhgaaDoor.P
open Go.RowKit Go.Proofs.YtginfaencjmhgaaDoorW.PrintWords Go.Proofs.YtginfaencjmhgaaDoorW.PrintLast Go.Proofs.YtginfaencjmhgaaDoorW.PrintMore
attribute [local go_sem] min2_int min_two
set_option linter.unusedVariables false
set_option linter.unusedSimpArgs false

-- HAND
-- IMPORT Derived.Test.YtginfaencjmhgaaDoorLd
-- IMPORT Derived.Test.YtginfaencjmhgaaDoorWMore
-- IMPORT Derived.Test.YtginfaencjmhgaaDoorWLast
-- IMPORT Derived.Test.YtginfaencjmhgaaDoorWInvWords
-- IMPORT Derived.WalkKit
-- IMPORT Derived.Test.YtginfaencjmhgaaDoorShort
set_option maxHeartbeats 2000000 in
set_option maxRecDepth 100000 in
theorem line_Parse.long (s : ByteArray) (w : World) (hs : 160 < s.size) :
  Calls Tryd.prog 22 #[.string s] w (ParsedPost w (zP 9)) := by
 have h160 : decide (160 < s.size) = true := decide_eq_true hs; have h161 : decide ((160 : Int) < (s.size : Int)) = true := decide_eq_true (by omega); clear hs; go_enter Tryd.func22, Tryd.ntmps22; go_wp2; exact bodyPost_ret (v := .agg #[.int .i64 9, .int .i64 0, .slice none 0 0, .int .u32 0, .int .i64 0, .string ⟨#[]⟩, .int .u64 0, .int .u64 0, .bool false, .int .i64 0, .int .i64 0]) (by simp [results, Tryd.results22, go_sem]) rfl (ParsedPost.zp (eA (Below.refl _ _) _))
set_option maxHeartbeats 2000000 in
set_option maxRecDepth 100000 in
theorem line_Parse.empty (s : ByteArray) (w : World) (hs : ¬ 160 < s.size) (hw : line_Words.f s = some []) :
  Calls Tryd.prog 22 #[.string s] w (ParsedPost w (zP 3)) := by
 obtain ⟨ws, hws⟩ : ∃ ws : List ByteArray, ws = [] := ⟨_, rfl⟩; rw [← hws] at hw
 have h160 : decide (160 < s.size) = false := decide_eq_false (by omega); have h161 : decide ((160 : Int) < (s.size : Int)) = false := decide_eq_false (by omega); clear hs; have HW := Aside0.mk hw; clear hw
 go_enter Tryd.func22, Tryd.ntmps22
 go_wp2_with (first | fail)
 have BR0 := blk_new w (.cells #[.int .i64 0, .int .i64 0, .slice none 0 0, .int .u32 0, .int .i64 0, .string ⟨#[]⟩, .int .u64 0, .int .u64 0, .bool false, .int .i64 0, .int .i64 0] 57); have HB0 := eA (Below.refl w.heap.size w) (.cells #[.int .i64 0, .int .i64 0, .slice none 0 0, .int .u32 0, .int .i64 0, .string ⟨#[]⟩, .int .u64 0, .int .u64 0, .bool false, .int .i64 0, .int .i64 0] 57)
 have hs0 : (w.alloc (.cells #[.int .i64 0, .int .i64 0, .slice none 0 0, .int .u32 0, .int .i64 0, .string ⟨#[]⟩, .int .u64 0, .int .u64 0, .bool false, .int .i64 0, .int .i64 0] 57)).heap.size = w.heap.size + 1 := by simp
 generalize (w.alloc (.cells #[.int .i64 0, .int .i64 0, .slice none 0 0, .int .u32 0, .int .i64 0, .string ⟨#[]⟩, .int .u64 0, .int .u64 0, .bool false, .int .i64 0, .int .i64 0] 57)) = W0 at BR0 HB0 hs0 ⊢
 with_reducible refine (line_Words.calls s ws _ HW.out).mono ?_
 rintro e_ w1 ⟨v0, rfl, hR, hB⟩
 obtain ⟨A0, c0, rfl, hc0, hC⟩ := Kd.R_reads hR; have BR := Aside0.mk (blk_below BR0 hB); have HB := Aside0.mk (below_step HB0 hB)
 have hlt : w.heap.size < w1.heap.size := blk_lt BR.out
 have HC := Aside0.mk hC; have HCc := Aside0.mk hc0; have HMX := Aside0.mk (Kd.F_max (Kd.C_F Kd.heap_string hC))
 clear BR0 HB0 hs0 hR hB hC hc0; have hl : ws.length = 0 := by rw [hws]; rfl
 rw [hl]; obtain ⟨hcy, hfy⟩ := d11 BR; go_wp2; have N5 : Aside0 (w.heap.size ≤ w.heap.size) := ⟨Nat.le_refl _⟩; refine bodyPost_ret (results_cell_row rfl _ _ w.heap.size 57 #[.int .i64 3, .int .i64 0, .slice none 0 0, .int .u32 0, .int .i64 0, .string ⟨#[]⟩, .int .u64 0, .int .u64 0, .bool false, .int .i64 0, .int .i64 0] (0, 0) _ rfl (bV BR.out) Tryd.underlying57 rfl (by kernel_rfl)) rfl ?_
 exact ParsedPost.zp (bH HB.out)
set_option maxHeartbeats 2000000 in
set_option maxRecDepth 100000 in
theorem line_Parse.none_ (s w0 : ByteArray) (wt : List ByteArray) (kd : Int) (w : World) (hs : ¬ 160 < s.size) (hw : line_Words.f s = some (w0 :: wt)) (hk : verb_Kind.f w0 = some kd) (hkd : kd = 0) :
  Calls Tryd.prog 22 #[.string s] w (ParsedPost w (zP 3)) := by
 have hk0 : (kd == 0) = true := beq_iff_eq.2 hkd; clear hkd
 have h160 : decide (160 < s.size) = false := decide_eq_false (by omega); have h161 : decide ((160 : Int) < (s.size : Int)) = false := decide_eq_false (by omega); clear hs; obtain ⟨ws, hws⟩ : ∃ ws : List ByteArray, ws = w0 :: wt := ⟨_, rfl⟩; rw [← hws] at hw
 have HK := Aside0.mk hk; clear hk
 have HW := Aside0.mk hw; clear hw
 go_enter Tryd.func22, Tryd.ntmps22
 go_wp2_with (first | fail)
 have BR0 := blk_new w (.cells #[.int .i64 0, .int .i64 0, .slice none 0 0, .int .u32 0, .int .i64 0, .string ⟨#[]⟩, .int .u64 0, .int .u64 0, .bool false, .int .i64 0, .int .i64 0] 57); have HB0 := eA (Below.refl w.heap.size w) (.cells #[.int .i64 0, .int .i64 0, .slice none 0 0, .int .u32 0, .int .i64 0, .string ⟨#[]⟩, .int .u64 0, .int .u64 0, .bool false, .int .i64 0, .int .i64 0] 57)
 have hs0 : (w.alloc (.cells #[.int .i64 0, .int .i64 0, .slice none 0 0, .int .u32 0, .int .i64 0, .string ⟨#[]⟩, .int .u64 0, .int .u64 0, .bool false, .int .i64 0, .int .i64 0] 57)).heap.size = w.heap.size + 1 := by simp
 generalize (w.alloc (.cells #[.int .i64 0, .int .i64 0, .slice none 0 0, .int .u32 0, .int .i64 0, .string ⟨#[]⟩, .int .u64 0, .int .u64 0, .bool false, .int .i64 0, .int .i64 0] 57)) = W0 at BR0 HB0 hs0 ⊢
 with_reducible refine (line_Words.calls s ws _ HW.out).mono ?_
 rintro e_ w1 ⟨v0, rfl, hR, hB⟩
 obtain ⟨A0, c0, rfl, hc0, hC⟩ := Kd.R_reads hR; have BR := Aside0.mk (blk_below BR0 hB); have HB := Aside0.mk (below_step HB0 hB)
 have hlt : w.heap.size < w1.heap.size := blk_lt BR.out
 have HC := Aside0.mk hC; have HCc := Aside0.mk hc0; have HMX := Aside0.mk (Kd.F_max (Kd.C_F Kd.heap_string hC))
 clear BR0 HB0 hs0 hR hB hC hc0; obtain ⟨n, hn⟩ : ∃ n, n = wt.length := ⟨_, rfl⟩; have hl : ws.length = n + 1 := by rw [hws, hn]; rfl
 rw [hl] at HC HCc HMX ⊢; have HCW := Aside0.mk (show Kd.C Kd.string w1 A0 (n + 1) (w0 :: wt) by rw [← hws]; exact HC.out); have HN := Aside0.mk hn; clear HC hws hl hn HW
 obtain ⟨ad, rfl, hcell⟩ := Kd.at_string HCW.out (0 : Int) (by omega) (by omega); have hx0 : w1.cell? ad = some (.string w0) := by simpa [Addr.add, rdOf] using hcell
 clear hcell; have hn0 : 0 < n + 1 := by omega
 go_wp2_with (first | fail)
 with_reducible refine (verb_Kind.calls w0 kd _ HK.out).mono ?_
 rintro e_ w2 ⟨rfl, hB⟩
 have BR2 := Aside0.mk (blk_below BR.out hB); have HB2 := Aside0.mk (below_step HB.out hB); have HF2 := Aside0.mk (Kd.F_below (Kd.C_F Kd.heap_string HCW.out) hB); have hlt2 : w.heap.size < w2.heap.size := blk_lt BR2.out; have hle2 : w1.heap.size ≤ w2.heap.size := hB.size
 clear hB BR HB hlt HCW hx0 hn0; obtain ⟨hcy, hfy⟩ := d11 BR2; go_wp2; have N5 : Aside0 (w.heap.size ≤ w.heap.size) := ⟨Nat.le_refl _⟩; refine bodyPost_ret (results_cell_row rfl _ _ w.heap.size 57 #[.int .i64 3, .int .i64 0, .slice none 0 0, .int .u32 0, .int .i64 0, .string ⟨#[]⟩, .int .u64 0, .int .u64 0, .bool false, .int .i64 0, .int .i64 0] (0, 0) _ rfl (bV BR2.out) Tryd.underlying57 rfl (by kernel_rfl)) rfl ?_
 exact ParsedPost.zp (bH HB2.out)
set_option maxHeartbeats 2000000 in
set_option maxRecDepth 100000 in
theorem line_Parse.reads (k : Nat) (s w0 : ByteArray) (wt : List ByteArray) (kd : Int) (r1 r2 : Int) (r3 : List ByteArray) (r4 r5 : Int) (r6 : ByteArray) (r7 r8 : Int) (r9 : Bool) (r10 r11 : Int) (w : World) (hL : LdS w) (hs : ¬ 160 < s.size) (hw : line_Words.f s = some (w0 :: wt)) (hk : verb_Kind.f w0 = some kd) (hk0 : ¬ kd = 0) (hkd : kd ≤ 4) (hr : line_reads.f k kd wt = some (r1, r2, r3, r4, r5, r6, r7, r8, r9, r10, r11)) :
  Calls Tryd.prog 22 #[.string s] w (ParsedPost w (r1, r2, r3, r4, r5, r6, r7, r8, r9, r10, r11)) := by
 have HL := Aside0.mk hL; have HR_ := Aside0.mk hr; clear hL hr
 have hk0 : (kd == 0) = false := beq_eq_false_iff_ne.2 hk0; have hk4 : decide (kd ≤ 4) = true := decide_eq_true hkd; clear hkd; have h160 : decide (160 < s.size) = false := decide_eq_false (by omega); have h161 : decide ((160 : Int) < (s.size : Int)) = false := decide_eq_false (by omega); clear hs; obtain ⟨ws, hws⟩ : ∃ ws : List ByteArray, ws = w0 :: wt := ⟨_, rfl⟩; rw [← hws] at hw
 have HK := Aside0.mk hk; clear hk
 have HW := Aside0.mk hw; clear hw
 go_enter Tryd.func22, Tryd.ntmps22
 go_wp2_with (first | fail)
 have BR0 := blk_new w (.cells #[.int .i64 0, .int .i64 0, .slice none 0 0, .int .u32 0, .int .i64 0, .string ⟨#[]⟩, .int .u64 0, .int .u64 0, .bool false, .int .i64 0, .int .i64 0] 57); have HB0 := eA (Below.refl w.heap.size w) (.cells #[.int .i64 0, .int .i64 0, .slice none 0 0, .int .u32 0, .int .i64 0, .string ⟨#[]⟩, .int .u64 0, .int .u64 0, .bool false, .int .i64 0, .int .i64 0] 57)
 have hs0 : (w.alloc (.cells #[.int .i64 0, .int .i64 0, .slice none 0 0, .int .u32 0, .int .i64 0, .string ⟨#[]⟩, .int .u64 0, .int .u64 0, .bool false, .int .i64 0, .int .i64 0] 57)).heap.size = w.heap.size + 1 := by simp
 generalize (w.alloc (.cells #[.int .i64 0, .int .i64 0, .slice none 0 0, .int .u32 0, .int .i64 0, .string ⟨#[]⟩, .int .u64 0, .int .u64 0, .bool false, .int .i64 0, .int .i64 0] 57)) = W0 at BR0 HB0 hs0 ⊢
 with_reducible refine (line_Words.calls s ws _ HW.out).mono ?_
 rintro e_ w1 ⟨v0, rfl, hR, hB⟩
 obtain ⟨A0, c0, rfl, hc0, hC⟩ := Kd.R_reads hR; have BR := Aside0.mk (blk_below BR0 hB); have HB := Aside0.mk (below_step HB0 hB)
 have hlt : w.heap.size < w1.heap.size := blk_lt BR.out
 have HC := Aside0.mk hC; have HCc := Aside0.mk hc0; have HMX := Aside0.mk (Kd.F_max (Kd.C_F Kd.heap_string hC))
 clear BR0 HB0 hs0 hR hB hC hc0; obtain ⟨n, hn⟩ : ∃ n, n = wt.length := ⟨_, rfl⟩; have hl : ws.length = n + 1 := by rw [hws, hn]; rfl
 rw [hl] at HC HCc HMX ⊢; have HCW := Aside0.mk (show Kd.C Kd.string w1 A0 (n + 1) (w0 :: wt) by rw [← hws]; exact HC.out); have HN := Aside0.mk hn; clear HC hws hl hn HW
 obtain ⟨ad, rfl, hcell⟩ := Kd.at_string HCW.out (0 : Int) (by omega) (by omega); have hx0 : w1.cell? ad = some (.string w0) := by simpa [Addr.add, rdOf] using hcell
 clear hcell; have hn0 : 0 < n + 1 := by omega
 go_wp2_with (first | fail)
 with_reducible refine (verb_Kind.calls w0 kd _ HK.out).mono ?_
 rintro e_ w2 ⟨rfl, hB⟩
 have BR2 := Aside0.mk (blk_below BR.out hB); have HB2 := Aside0.mk (below_step HB.out hB); have HF2 := Aside0.mk (Kd.F_below (Kd.C_F Kd.heap_string HCW.out) hB); have hlt2 : w.heap.size < w2.heap.size := blk_lt BR2.out; have hle2 : w1.heap.size ≤ w2.heap.size := hB.size
 clear hB BR HB hlt HCW hx0 hn0; obtain ⟨A1, hcut0, hcutF⟩ := cutF (some ad) (n + 1) c0 1 (by omega); have hcut : ∀ W : World, (Instr.slice 34 (.slice (some ad) (n + 1) c0) (some (.int .i64 1)) none none).run Tryd.prog W = .ok (.slice A1 n (c0 - 1)) W := fun W => by simpa using hcut0 W
 have HF3 := Aside0.mk (show Kd.F Kd.string w2 (fun b => b < w1.heap.size) A1 wt.length wt from hcutF w2 (fun b => b < w1.heap.size) (w0 :: wt) (by have h := HN.out; rw [List.length_cons, ← h]) HCc.out (by have h := HF2.out; have h2 := HN.out; have e : (w0 :: wt).length = n + 1 := (by rw [List.length_cons, ← h2]); rw [e]; exact h)); have HC3 : Aside0 (wt.length ≤ c0 - 1) := ⟨by have h1 := HCc.out; have h2 := HN.out; omega⟩; have hc1 := HCc.out; clear hcut0 hcutF
 go_wp2_with (first | fail)
 rw [HN.out]; refine (line_reads.calls k kd A1 (c0 - 1) wt (r1, r2, r3, r4, r5, r6, r7, r8, r9, r10, r11) _ (Kd.F_now HF3.out) HC3.out (HL.out.on HB2.out) HR_.out).mono ?_
 have BRp := BR2.out; have HBp := HB2.out; clear hc1 hcut
 rintro e_ w3 ⟨v2, rfl, hR, hB⟩
 obtain ⟨Ak, ck, rfl⟩ := Kd.R_slice hR; have BR3 := Aside0.mk (blk_below BRp hB); have HB3 := Aside0.mk (below_step HBp hB); have HR3 := Aside0.mk hR; clear hR hB
 dsimp only
 obtain ⟨hcy, hfy⟩ := d11 BR3; go_wp2; have N5 : Aside0 (w.heap.size ≤ w.heap.size) := ⟨Nat.le_refl _⟩; refine bodyPost_ret (results_cell_row rfl _ _ w.heap.size 57 #[.int .i64 r1, .int .i64 r2, .slice Ak r3.length ck, .int .u32 r4, .int .i64 r5, .string r6, .int .u64 r7, .int .u64 r8, .bool r9, .int .i64 r10, .int .i64 r11] (0, 0) _ rfl (bV BR3.out) Tryd.underlying57 rfl (by kernel_rfl)) rfl ?_
 refine ⟨_, rfl, ?_, bH HB3.out⟩
 refine Kd.R_mono (ok := fun b => b ≠ w.heap.size) ?_ (fun _ _ => trivial)
 (iterate 11 (refine Kd.R_far (p := ⟨w.heap.size, _, none⟩) ?_ (fun _ hk => hk) _))
 exact Kd.R_lower (Kd.R_mono (Kd.R_bound HR3.out) (fun b hb => by have h1 : w2.heap.size ≤ b := hb.2.1; show b ≠ w.heap.size; omega)) (Nat.le_of_lt hlt2)
set_option maxHeartbeats 2000000 in
set_option maxRecDepth 100000 in
theorem line_Parse.no0m (k : Nat) (s w0 : ByteArray) (wt : List ByteArray) (kd : Int) (w : World) (hL : LdS w) (hs : ¬ 160 < s.size) (hw : line_Words.f s = some (w0 :: wt)) (hk : verb_Kind.f w0 = some kd) (hk0 : ¬ kd = 0) (hkd : ¬ kd ≤ 4) (hwd : line_words.v kd = 1) (hln : ¬ wt.length = 1) (hlm : ¬ wt.length = 0) :
  Calls Tryd.prog 22 #[.string s] w (ParsedPost w (zP 3)) := by
 have hk0 : (kd == 0) = false := beq_eq_false_iff_ne.2 hk0; have hk4 : decide (kd ≤ 4) = false := decide_eq_false hkd; have HWD := Aside0.mk hwd; clear hkd hwd
 have h160 : decide (160 < s.size) = false := decide_eq_false (by omega); have h161 : decide ((160 : Int) < (s.size : Int)) = false := decide_eq_false (by omega); clear hs; obtain ⟨ws, hws⟩ : ∃ ws : List ByteArray, ws = w0 :: wt := ⟨_, rfl⟩; rw [← hws] at hw
 have HK := Aside0.mk hk; clear hk
 have HW := Aside0.mk hw; clear hw
 go_enter Tryd.func22, Tryd.ntmps22
 go_wp2_with (first | fail)
 have BR0 := blk_new w (.cells #[.int .i64 0, .int .i64 0, .slice none 0 0, .int .u32 0, .int .i64 0, .string ⟨#[]⟩, .int .u64 0, .int .u64 0, .bool false, .int .i64 0, .int .i64 0] 57); have HB0 := eA (Below.refl w.heap.size w) (.cells #[.int .i64 0, .int .i64 0, .slice none 0 0, .int .u32 0, .int .i64 0, .string ⟨#[]⟩, .int .u64 0, .int .u64 0, .bool false, .int .i64 0, .int .i64 0] 57)
 have hs0 : (w.alloc (.cells #[.int .i64 0, .int .i64 0, .slice none 0 0, .int .u32 0, .int .i64 0, .string ⟨#[]⟩, .int .u64 0, .int .u64 0, .bool false, .int .i64 0, .int .i64 0] 57)).heap.size = w.heap.size + 1 := by simp
 generalize (w.alloc (.cells #[.int .i64 0, .int .i64 0, .slice none 0 0, .int .u32 0, .int .i64 0, .string ⟨#[]⟩, .int .u64 0, .int .u64 0, .bool false, .int .i64 0, .int .i64 0] 57)) = W0 at BR0 HB0 hs0 ⊢
 with_reducible refine (line_Words.calls s ws _ HW.out).mono ?_
 rintro e_ w1 ⟨v0, rfl, hR, hB⟩
 obtain ⟨A0, c0, rfl, hc0, hC⟩ := Kd.R_reads hR; have BR := Aside0.mk (blk_below BR0 hB); have HB := Aside0.mk (below_step HB0 hB)
 have hlt : w.heap.size < w1.heap.size := blk_lt BR.out
 have HC := Aside0.mk hC; have HCc := Aside0.mk hc0; have HMX := Aside0.mk (Kd.F_max (Kd.C_F Kd.heap_string hC))
 clear BR0 HB0 hs0 hR hB hC hc0; obtain ⟨n, hn⟩ : ∃ n, n = wt.length := ⟨_, rfl⟩; have hl : ws.length = n + 1 := by rw [hws, hn]; rfl
 rw [hl] at HC HCc HMX ⊢; have HCW := Aside0.mk (show Kd.C Kd.string w1 A0 (n + 1) (w0 :: wt) by rw [← hws]; exact HC.out); have HN := Aside0.mk hn; clear HC hws hl hn HW
 obtain ⟨ad, rfl, hcell⟩ := Kd.at_string HCW.out (0 : Int) (by omega) (by omega); have hx0 : w1.cell? ad = some (.string w0) := by simpa [Addr.add, rdOf] using hcell
 clear hcell; have hn0 : 0 < n + 1 := by omega
 go_wp2_with (first | fail)
 with_reducible refine (verb_Kind.calls w0 kd _ HK.out).mono ?_
 rintro e_ w2 ⟨rfl, hB⟩
 have BR2 := Aside0.mk (blk_below BR.out hB); have HB2 := Aside0.mk (below_step HB.out hB); have HF2 := Aside0.mk (Kd.F_below (Kd.C_F Kd.heap_string HCW.out) hB); have hlt2 : w.heap.size < w2.heap.size := blk_lt BR2.out; have hle2 : w1.heap.size ≤ w2.heap.size := hB.size
 clear hB BR HB hlt HCW hx0 hn0; have hnm1 : ((n : Int) != 0) = true := bne_iff_ne.2 (by have h1 := HN.out; omega); have hnm2 : (n != 0) = true := bne_iff_ne.2 (by have h1 := HN.out; omega); have hnm3 : ¬ n = 0 := by have h1 := HN.out; omega
 have hln1 : ((n : Int) == 1) = false := beq_eq_false_iff_ne.2 (by have h1 := HN.out; omega); have hln2 : (n == 1) = false := beq_eq_false_iff_ne.2 (by have h1 := HN.out; omega); have hln3 : ¬ n = 1 := by have h1 := HN.out; omega
 clear hln hlm; obtain ⟨A1, hcut0, hcutF⟩ := cutF (some ad) (n + 1) c0 1 (by omega); have hcut : ∀ W : World, (Instr.slice 34 (.slice (some ad) (n + 1) c0) (some (.int .i64 1)) none none).run Tryd.prog W = .ok (.slice A1 n (c0 - 1)) W := fun W => by simpa using hcut0 W
 have HF3 := Aside0.mk (show Kd.F Kd.string w2 (fun b => b < w1.heap.size) A1 wt.length wt from hcutF w2 (fun b => b < w1.heap.size) (w0 :: wt) (by have h := HN.out; rw [List.length_cons, ← h]) HCc.out (by have h := HF2.out; have h2 := HN.out; have e : (w0 :: wt).length = n + 1 := (by rw [List.length_cons, ← h2]); rw [e]; exact h)); have HC3 : Aside0 (wt.length ≤ c0 - 1) := ⟨by have h1 := HCc.out; have h2 := HN.out; omega⟩; have hc1 := HCc.out; clear hcut0 hcutF
 go_wp2_with (first | fail)
 have hlw2 : line_words.f kd = some 1 := by unfold line_words.f; rw [HWD.out]
 have HW2 := Aside0.mk hlw2; clear hlw2
 have BRa := bA BR2.out (.cells #[.int .i64 kd, .slice none 0 0, .int .u32 0, .int .i64 0, .string ⟨#[]⟩, .int .u64 0, .int .u64 0, .bool false] 37); have HBa := eA HB2.out (.cells #[.int .i64 kd, .slice none 0 0, .int .u32 0, .int .i64 0, .string ⟨#[]⟩, .int .u64 0, .int .u64 0, .bool false] 37); have HFa := Kd.F_alloc HF3.out (.cells #[.int .i64 kd, .slice none 0 0, .int .u32 0, .int .i64 0, .string ⟨#[]⟩, .int .u64 0, .int .u64 0, .bool false] 37); have BCa := blk_new w2 (.cells #[.int .i64 kd, .slice none 0 0, .int .u32 0, .int .i64 0, .string ⟨#[]⟩, .int .u64 0, .int .u64 0, .bool false] 37)
 have hlta : w.heap.size ≠ w2.heap.size := by omega
 have hle : w1.heap.size ≤ w2.heap.size := hle2; have hltc : w.heap.size < w2.heap.size := hlt2
 generalize hcb : w2.heap.size = cb at BCa hlta hle hltc ⊢; generalize (w2.alloc (.cells #[.int .i64 kd, .slice none 0 0, .int .u32 0, .int .i64 0, .string ⟨#[]⟩, .int .u64 0, .int .u64 0, .bool false] 37)) = W3 at BRa HBa HFa BCa ⊢
 with_reducible refine (line_words.calls kd 1 _ HW2.out).mono ?_
 rintro e_ w3 ⟨rfl, ⟨nd, rfl⟩⟩
 have BR3 := Aside0.mk (bN BRa nd); have HB3 := Aside0.mk (eN HBa nd); have HF3' := Aside0.mk (Kd.F_drewN HFa nd); have BC3 := Aside0.mk (bN BCa nd)
 clear BRa HBa HFa BCa BR2 HB2 HF2 HF3 HW2 hlt2; generalize (W3.drewN nd) = w3 at BR3 HB3 HF3' BC3 ⊢; have hcl3 : cb < w3.heap.size := blk_lt BC3.out; have hrl3 : w.heap.size < w3.heap.size := blk_lt BR3.out
 obtain ⟨hcy, hfy⟩ := d11 BR3
 go_wp2_with (first | fail)
 have N5 : Aside0 (w.heap.size ≤ w.heap.size) := ⟨Nat.le_refl _⟩; refine bodyPost_ret (results_cell_row rfl _ _ w.heap.size 57 #[.int .i64 3, .int .i64 0, .slice none 0 0, .int .u32 0, .int .i64 0, .string ⟨#[]⟩, .int .u64 0, .int .u64 0, .bool false, .int .i64 0, .int .i64 0] (0, 0) _ rfl (bV BR3.out) Tryd.underlying57 rfl (by kernel_rfl)) rfl ?_
 exact ParsedPost.zp (bH HB3.out)
set_option maxHeartbeats 2000000 in
set_option maxRecDepth 100000 in
theorem line_Parse.no0b (k : Nat) (s w0 : ByteArray) (wt : List ByteArray) (kd : Int) (w : World) (hL : LdS w) (hs : ¬ 160 < s.size) (hw : line_Words.f s = some (w0 :: wt)) (hk : verb_Kind.f w0 = some kd) (hk0 : ¬ kd = 0) (hkd : ¬ kd ≤ 4) (hwd : line_words.v kd = 1) (hln : wt.length = 1) (hlw : ((wt.getD 0 ByteArray.empty).toList == [110, 111, 114, 101, 112, 108, 121]) = false) :
  Calls Tryd.prog 22 #[.string s] w (ParsedPost w (zP 3)) := by
 have hk0 : (kd == 0) = false := beq_eq_false_iff_ne.2 hk0; have hk4 : decide (kd ≤ 4) = false := decide_eq_false hkd; have HWD := Aside0.mk hwd; clear hkd hwd
 have HLN := Aside0.mk hln; clear hln
 have HLW := Aside0.mk hlw; clear hlw
 have h160 : decide (160 < s.size) = false := decide_eq_false (by omega); have h161 : decide ((160 : Int) < (s.size : Int)) = false := decide_eq_false (by omega); clear hs; obtain ⟨ws, hws⟩ : ∃ ws : List ByteArray, ws = w0 :: wt := ⟨_, rfl⟩; rw [← hws] at hw
 have HK := Aside0.mk hk; clear hk
 have HW := Aside0.mk hw; clear hw
 go_enter Tryd.func22, Tryd.ntmps22
 go_wp2_with (first | fail)
 have BR0 := blk_new w (.cells #[.int .i64 0, .int .i64 0, .slice none 0 0, .int .u32 0, .int .i64 0, .string ⟨#[]⟩, .int .u64 0, .int .u64 0, .bool false, .int .i64 0, .int .i64 0] 57); have HB0 := eA (Below.refl w.heap.size w) (.cells #[.int .i64 0, .int .i64 0, .slice none 0 0, .int .u32 0, .int .i64 0, .string ⟨#[]⟩, .int .u64 0, .int .u64 0, .bool false, .int .i64 0, .int .i64 0] 57)
 have hs0 : (w.alloc (.cells #[.int .i64 0, .int .i64 0, .slice none 0 0, .int .u32 0, .int .i64 0, .string ⟨#[]⟩, .int .u64 0, .int .u64 0, .bool false, .int .i64 0, .int .i64 0] 57)).heap.size = w.heap.size + 1 := by simp
 generalize (w.alloc (.cells #[.int .i64 0, .int .i64 0, .slice none 0 0, .int .u32 0, .int .i64 0, .string ⟨#[]⟩, .int .u64 0, .int .u64 0, .bool false, .int .i64 0, .int .i64 0] 57)) = W0 at BR0 HB0 hs0 ⊢
 with_reducible refine (line_Words.calls s ws _ HW.out).mono ?_
 rintro e_ w1 ⟨v0, rfl, hR, hB⟩
 obtain ⟨A0, c0, rfl, hc0, hC⟩ := Kd.R_reads hR; have BR := Aside0.mk (blk_below BR0 hB); have HB := Aside0.mk (below_step HB0 hB)
 have hlt : w.heap.size < w1.heap.size := blk_lt BR.out
 have HC := Aside0.mk hC; have HCc := Aside0.mk hc0; have HMX := Aside0.mk (Kd.F_max (Kd.C_F Kd.heap_string hC))
 clear BR0 HB0 hs0 hR hB hC hc0; obtain ⟨n, hn⟩ : ∃ n, n = wt.length := ⟨_, rfl⟩; have hl : ws.length = n + 1 := by rw [hws, hn]; rfl
 rw [hl] at HC HCc HMX ⊢; have HCW := Aside0.mk (show Kd.C Kd.string w1 A0 (n + 1) (w0 :: wt) by rw [← hws]; exact HC.out); have HN := Aside0.mk hn; clear HC hws hl hn HW
 obtain ⟨ad, rfl, hcell⟩ := Kd.at_string HCW.out (0 : Int) (by omega) (by omega); have hx0 : w1.cell? ad = some (.string w0) := by simpa [Addr.add, rdOf] using hcell
 clear hcell; have hn0 : 0 < n + 1 := by omega
 go_wp2_with (first | fail)
 with_reducible refine (verb_Kind.calls w0 kd _ HK.out).mono ?_
 rintro e_ w2 ⟨rfl, hB⟩
 have BR2 := Aside0.mk (blk_below BR.out hB); have HB2 := Aside0.mk (below_step HB.out hB); have HF2 := Aside0.mk (Kd.F_below (Kd.C_F Kd.heap_string HCW.out) hB); have hlt2 : w.heap.size < w2.heap.size := blk_lt BR2.out; have hle2 : w1.heap.size ≤ w2.heap.size := hB.size
 clear hB BR HB hlt HCW hx0 hn0; obtain rfl : n = 1 := by have h1 := HN.out; have h2 := HLN.out; omega
 obtain ⟨A1, hcut0, hcutF⟩ := cutF (some ad) (2) c0 1 (by omega); have hcut : ∀ W : World, (Instr.slice 34 (.slice (some ad) (2) c0) (some (.int .i64 1)) none none).run Tryd.prog W = .ok (.slice A1 1 (c0 - 1)) W := fun W => by simpa using hcut0 W
 have HF3 := Aside0.mk (show Kd.F Kd.string w2 (fun b => b < w1.heap.size) A1 wt.length wt from hcutF w2 (fun b => b < w1.heap.size) (w0 :: wt) (by have h := HN.out; rw [List.length_cons, ← h]) HCc.out (by have h := HF2.out; have h2 := HN.out; have e : (w0 :: wt).length = 2 := (by rw [List.length_cons, ← h2]); rw [e]; exact h)); have HC3 : Aside0 (wt.length ≤ c0 - 1) := ⟨by have h1 := HCc.out; have h2 := HN.out; omega⟩; have hc1 := HCc.out; clear hcut0 hcutF
 go_wp2_with (first | fail)
 have hlw2 : line_words.f kd = some 1 := by unfold line_words.f; rw [HWD.out]
 have HW2 := Aside0.mk hlw2; clear hlw2
 have BRa := bA BR2.out (.cells #[.int .i64 kd, .slice none 0 0, .int .u32 0, .int .i64 0, .string ⟨#[]⟩, .int .u64 0, .int .u64 0, .bool false] 37); have HBa := eA HB2.out (.cells #[.int .i64 kd, .slice none 0 0, .int .u32 0, .int .i64 0, .string ⟨#[]⟩, .int .u64 0, .int .u64 0, .bool false] 37); have HFa := Kd.F_alloc HF3.out (.cells #[.int .i64 kd, .slice none 0 0, .int .u32 0, .int .i64 0, .string ⟨#[]⟩, .int .u64 0, .int .u64 0, .bool false] 37); have BCa := blk_new w2 (.cells #[.int .i64 kd, .slice none 0 0, .int .u32 0, .int .i64 0, .string ⟨#[]⟩, .int .u64 0, .int .u64 0, .bool false] 37)
 have hlta : w.heap.size ≠ w2.heap.size := by omega
 have hle : w1.heap.size ≤ w2.heap.size := hle2; have hltc : w.heap.size < w2.heap.size := hlt2
 generalize hcb : w2.heap.size = cb at BCa hlta hle hltc ⊢; generalize (w2.alloc (.cells #[.int .i64 kd, .slice none 0 0, .int .u32 0, .int .i64 0, .string ⟨#[]⟩, .int .u64 0, .int .u64 0, .bool false] 37)) = W3 at BRa HBa HFa BCa ⊢
 with_reducible refine (line_words.calls kd 1 _ HW2.out).mono ?_
 rintro e_ w3 ⟨rfl, ⟨nd, rfl⟩⟩
 have BR3 := Aside0.mk (bN BRa nd); have HB3 := Aside0.mk (eN HBa nd); have HF3' := Aside0.mk (Kd.F_drewN HFa nd); have BC3 := Aside0.mk (bN BCa nd)
 clear BRa HBa HFa BCa BR2 HB2 HF2 HF3 HW2 hlt2; generalize (W3.drewN nd) = w3 at BR3 HB3 HF3' BC3 ⊢; have hcl3 : cb < w3.heap.size := blk_lt BC3.out; have hrl3 : w.heap.size < w3.heap.size := blk_lt BR3.out
 obtain ⟨ad1, rfl, hcl⟩ := Kd.at_string (Kd.F_now HF3'.out) (0 : Int) (by omega) (by rw [HLN.out]; omega); have hxl : w3.cell? ad1 = some (.string (wt.getD 0 ByteArray.empty)) := by simpa [Addr.add, rdOf] using hcl
 clear hcl; have hlx : ((wt.getD 0 ByteArray.empty).toList == [110, 111, 114, 101, 112, 108, 121]) = false := HLW.out; have hlx2 : ((wt.getD 0 ByteArray.empty).toList == (⟨#[110, 111, 114, 101, 112, 108, 121]⟩ : ByteArray).toList) = false := by rw [show (⟨#[110, 111, 114, 101, 112, 108, 121]⟩ : ByteArray).toList = [110, 111, 114, 101, 112, 108, 121] from by rw [ByteArray.toList_eq]]; exact HLW.out
 generalize (wt.getD 0 ByteArray.empty) = lw at hxl hlx hlx2; obtain ⟨hcy, hfy⟩ := d11 BR3
 go_wp2_with (first | fail)
 have N5 : Aside0 (w.heap.size ≤ w.heap.size) := ⟨Nat.le_refl _⟩; refine bodyPost_ret (results_cell_row rfl _ _ w.heap.size 57 #[.int .i64 3, .int .i64 0, .slice none 0 0, .int .u32 0, .int .i64 0, .string ⟨#[]⟩, .int .u64 0, .int .u64 0, .bool false, .int .i64 0, .int .i64 0] (0, 0) _ rfl (bV BR3.out) Tryd.underlying57 rfl (by kernel_rfl)) rfl ?_
 exact ParsedPost.zp (bH HB3.out)
set_option maxHeartbeats 2000000 in
set_option maxRecDepth 100000 in
theorem line_Parse.no1m (k : Nat) (s w0 : ByteArray) (wt : List ByteArray) (kd : Int) (w : World) (hL : LdS w) (hs : ¬ 160 < s.size) (hw : line_Words.f s = some (w0 :: wt)) (hk : verb_Kind.f w0 = some kd) (hk0 : ¬ kd = 0) (hkd : ¬ kd ≤ 4) (hwd : line_words.v kd = 2) (hln : ¬ wt.length = 2) (hlm : ¬ wt.length = 1) :
  Calls Tryd.prog 22 #[.string s] w (ParsedPost w (zP 3)) := by
 have hk0 : (kd == 0) = false := beq_eq_false_iff_ne.2 hk0; have hk4 : decide (kd ≤ 4) = false := decide_eq_false hkd; have HWD := Aside0.mk hwd; clear hkd hwd
 have h160 : decide (160 < s.size) = false := decide_eq_false (by omega); have h161 : decide ((160 : Int) < (s.size : Int)) = false := decide_eq_false (by omega); clear hs; obtain ⟨ws, hws⟩ : ∃ ws : List ByteArray, ws = w0 :: wt := ⟨_, rfl⟩; rw [← hws] at hw
 have HK := Aside0.mk hk; clear hk
 have HW := Aside0.mk hw; clear hw
 go_enter Tryd.func22, Tryd.ntmps22
 go_wp2_with (first | fail)
 have BR0 := blk_new w (.cells #[.int .i64 0, .int .i64 0, .slice none 0 0, .int .u32 0, .int .i64 0, .string ⟨#[]⟩, .int .u64 0, .int .u64 0, .bool false, .int .i64 0, .int .i64 0] 57); have HB0 := eA (Below.refl w.heap.size w) (.cells #[.int .i64 0, .int .i64 0, .slice none 0 0, .int .u32 0, .int .i64 0, .string ⟨#[]⟩, .int .u64 0, .int .u64 0, .bool false, .int .i64 0, .int .i64 0] 57)
 have hs0 : (w.alloc (.cells #[.int .i64 0, .int .i64 0, .slice none 0 0, .int .u32 0, .int .i64 0, .string ⟨#[]⟩, .int .u64 0, .int .u64 0, .bool false, .int .i64 0, .int .i64 0] 57)).heap.size = w.heap.size + 1 := by simp
 generalize (w.alloc (.cells #[.int .i64 0, .int .i64 0, .slice none 0 0, .int .u32 0, .int .i64 0, .string ⟨#[]⟩, .int .u64 0, .int .u64 0, .bool false, .int .i64 0, .int .i64 0] 57)) = W0 at BR0 HB0 hs0 ⊢
 with_reducible refine (line_Words.calls s ws _ HW.out).mono ?_
 rintro e_ w1 ⟨v0, rfl, hR, hB⟩
 obtain ⟨A0, c0, rfl, hc0, hC⟩ := Kd.R_reads hR; have BR := Aside0.mk (blk_below BR0 hB); have HB := Aside0.mk (below_step HB0 hB)
 have hlt : w.heap.size < w1.heap.size := blk_lt BR.out
 have HC := Aside0.mk hC; have HCc := Aside0.mk hc0; have HMX := Aside0.mk (Kd.F_max (Kd.C_F Kd.heap_string hC))
 clear BR0 HB0 hs0 hR hB hC hc0; obtain ⟨n, hn⟩ : ∃ n, n = wt.length := ⟨_, rfl⟩; have hl : ws.length = n + 1 := by rw [hws, hn]; rfl
 rw [hl] at HC HCc HMX ⊢; have HCW := Aside0.mk (show Kd.C Kd.string w1 A0 (n + 1) (w0 :: wt) by rw [← hws]; exact HC.out); have HN := Aside0.mk hn; clear HC hws hl hn HW
 obtain ⟨ad, rfl, hcell⟩ := Kd.at_string HCW.out (0 : Int) (by omega) (by omega); have hx0 : w1.cell? ad = some (.string w0) := by simpa [Addr.add, rdOf] using hcell
 clear hcell; have hn0 : 0 < n + 1 := by omega
 go_wp2_with (first | fail)
 with_reducible refine (verb_Kind.calls w0 kd _ HK.out).mono ?_
 rintro e_ w2 ⟨rfl, hB⟩
 have BR2 := Aside0.mk (blk_below BR.out hB); have HB2 := Aside0.mk (below_step HB.out hB); have HF2 := Aside0.mk (Kd.F_below (Kd.C_F Kd.heap_string HCW.out) hB); have hlt2 : w.heap.size < w2.heap.size := blk_lt BR2.out; have hle2 : w1.heap.size ≤ w2.heap.size := hB.size
 clear hB BR HB hlt HCW hx0 hn0; have hnm1 : ((n : Int) != 1) = true := bne_iff_ne.2 (by have h1 := HN.out; omega); have hnm2 : (n != 1) = true := bne_iff_ne.2 (by have h1 := HN.out; omega); have hnm3 : ¬ n = 1 := by have h1 := HN.out; omega
 have hln1 : ((n : Int) == 2) = false := beq_eq_false_iff_ne.2 (by have h1 := HN.out; omega); have hln2 : (n == 2) = false := beq_eq_false_iff_ne.2 (by have h1 := HN.out; omega); have hln3 : ¬ n = 2 := by have h1 := HN.out; omega
 clear hln hlm; obtain ⟨A1, hcut0, hcutF⟩ := cutF (some ad) (n + 1) c0 1 (by omega); have hcut : ∀ W : World, (Instr.slice 34 (.slice (some ad) (n + 1) c0) (some (.int .i64 1)) none none).run Tryd.prog W = .ok (.slice A1 n (c0 - 1)) W := fun W => by simpa using hcut0 W
 have HF3 := Aside0.mk (show Kd.F Kd.string w2 (fun b => b < w1.heap.size) A1 wt.length wt from hcutF w2 (fun b => b < w1.heap.size) (w0 :: wt) (by have h := HN.out; rw [List.length_cons, ← h]) HCc.out (by have h := HF2.out; have h2 := HN.out; have e : (w0 :: wt).length = n + 1 := (by rw [List.length_cons, ← h2]); rw [e]; exact h)); have HC3 : Aside0 (wt.length ≤ c0 - 1) := ⟨by have h1 := HCc.out; have h2 := HN.out; omega⟩; have hc1 := HCc.out; clear hcut0 hcutF
 go_wp2_with (first | fail)
 have hlw2 : line_words.f kd = some 2 := by unfold line_words.f; rw [HWD.out]
 have HW2 := Aside0.mk hlw2; clear hlw2
 have BRa := bA BR2.out (.cells #[.int .i64 kd, .slice none 0 0, .int .u32 0, .int .i64 0, .string ⟨#[]⟩, .int .u64 0, .int .u64 0, .bool false] 37); have HBa := eA HB2.out (.cells #[.int .i64 kd, .slice none 0 0, .int .u32 0, .int .i64 0, .string ⟨#[]⟩, .int .u64 0, .int .u64 0, .bool false] 37); have HFa := Kd.F_alloc HF3.out (.cells #[.int .i64 kd, .slice none 0 0, .int .u32 0, .int .i64 0, .string ⟨#[]⟩, .int .u64 0, .int .u64 0, .bool false] 37); have BCa := blk_new w2 (.cells #[.int .i64 kd, .slice none 0 0, .int .u32 0, .int .i64 0, .string ⟨#[]⟩, .int .u64 0, .int .u64 0, .bool false] 37)
 have hlta : w.heap.size ≠ w2.heap.size := by omega
 have hle : w1.heap.size ≤ w2.heap.size := hle2; have hltc : w.heap.size < w2.heap.size := hlt2
 generalize hcb : w2.heap.size = cb at BCa hlta hle hltc ⊢; generalize (w2.alloc (.cells #[.int .i64 kd, .slice none 0 0, .int .u32 0, .int .i64 0, .string ⟨#[]⟩, .int .u64 0, .int .u64 0, .bool false] 37)) = W3 at BRa HBa HFa BCa ⊢
 with_reducible refine (line_words.calls kd 2 _ HW2.out).mono ?_
 rintro e_ w3 ⟨rfl, ⟨nd, rfl⟩⟩
 have BR3 := Aside0.mk (bN BRa nd); have HB3 := Aside0.mk (eN HBa nd); have HF3' := Aside0.mk (Kd.F_drewN HFa nd); have BC3 := Aside0.mk (bN BCa nd)
 clear BRa HBa HFa BCa BR2 HB2 HF2 HF3 HW2 hlt2; generalize (W3.drewN nd) = w3 at BR3 HB3 HF3' BC3 ⊢; have hcl3 : cb < w3.heap.size := blk_lt BC3.out; have hrl3 : w.heap.size < w3.heap.size := blk_lt BR3.out
 obtain ⟨hcy, hfy⟩ := d11 BR3
 go_wp2_with (first | fail)
 have N5 : Aside0 (w.heap.size ≤ w.heap.size) := ⟨Nat.le_refl _⟩; refine bodyPost_ret (results_cell_row rfl _ _ w.heap.size 57 #[.int .i64 3, .int .i64 0, .slice none 0 0, .int .u32 0, .int .i64 0, .string ⟨#[]⟩, .int .u64 0, .int .u64 0, .bool false, .int .i64 0, .int .i64 0] (0, 0) _ rfl (bV BR3.out) Tryd.underlying57 rfl (by kernel_rfl)) rfl ?_
 exact ParsedPost.zp (bH HB3.out)
set_option maxHeartbeats 2000000 in
set_option maxRecDepth 100000 in
theorem line_Parse.no1b (k : Nat) (s w0 : ByteArray) (wt : List ByteArray) (kd : Int) (w : World) (hL : LdS w) (hs : ¬ 160 < s.size) (hw : line_Words.f s = some (w0 :: wt)) (hk : verb_Kind.f w0 = some kd) (hk0 : ¬ kd = 0) (hkd : ¬ kd ≤ 4) (hwd : line_words.v kd = 2) (hln : wt.length = 2) (hlw : ((wt.getD 1 ByteArray.empty).toList == [110, 111, 114, 101, 112, 108, 121]) = false) :
  Calls Tryd.prog 22 #[.string s] w (ParsedPost w (zP 3)) := by
 have hk0 : (kd == 0) = false := beq_eq_false_iff_ne.2 hk0; have hk4 : decide (kd ≤ 4) = false := decide_eq_false hkd; have HWD := Aside0.mk hwd; clear hkd hwd
 have HLN := Aside0.mk hln; clear hln
 have HLW := Aside0.mk hlw; clear hlw
 have h160 : decide (160 < s.size) = false := decide_eq_false (by omega); have h161 : decide ((160 : Int) < (s.size : Int)) = false := decide_eq_false (by omega); clear hs; obtain ⟨ws, hws⟩ : ∃ ws : List ByteArray, ws = w0 :: wt := ⟨_, rfl⟩; rw [← hws] at hw
 have HK := Aside0.mk hk; clear hk
 have HW := Aside0.mk hw; clear hw
 go_enter Tryd.func22, Tryd.ntmps22
 go_wp2_with (first | fail)
 have BR0 := blk_new w (.cells #[.int .i64 0, .int .i64 0, .slice none 0 0, .int .u32 0, .int .i64 0, .string ⟨#[]⟩, .int .u64 0, .int .u64 0, .bool false, .int .i64 0, .int .i64 0] 57); have HB0 := eA (Below.refl w.heap.size w) (.cells #[.int .i64 0, .int .i64 0, .slice none 0 0, .int .u32 0, .int .i64 0, .string ⟨#[]⟩, .int .u64 0, .int .u64 0, .bool false, .int .i64 0, .int .i64 0] 57)
 have hs0 : (w.alloc (.cells #[.int .i64 0, .int .i64 0, .slice none 0 0, .int .u32 0, .int .i64 0, .string ⟨#[]⟩, .int .u64 0, .int .u64 0, .bool false, .int .i64 0, .int .i64 0] 57)).heap.size = w.heap.size + 1 := by simp
 generalize (w.alloc (.cells #[.int .i64 0, .int .i64 0, .slice none 0 0, .int .u32 0, .int .i64 0, .string ⟨#[]⟩, .int .u64 0, .int .u64 0, .bool false, .int .i64 0, .int .i64 0] 57)) = W0 at BR0 HB0 hs0 ⊢
 with_reducible refine (line_Words.calls s ws _ HW.out).mono ?_
 rintro e_ w1 ⟨v0, rfl, hR, hB⟩
 obtain ⟨A0, c0, rfl, hc0, hC⟩ := Kd.R_reads hR; have BR := Aside0.mk (blk_below BR0 hB); have HB := Aside0.mk (below_step HB0 hB)
 have hlt : w.heap.size < w1.heap.size := blk_lt BR.out
 have HC := Aside0.mk hC; have HCc := Aside0.mk hc0; have HMX := Aside0.mk (Kd.F_max (Kd.C_F Kd.heap_string hC))
 clear BR0 HB0 hs0 hR hB hC hc0; obtain ⟨n, hn⟩ : ∃ n, n = wt.length := ⟨_, rfl⟩; have hl : ws.length = n + 1 := by rw [hws, hn]; rfl
 rw [hl] at HC HCc HMX ⊢; have HCW := Aside0.mk (show Kd.C Kd.string w1 A0 (n + 1) (w0 :: wt) by rw [← hws]; exact HC.out); have HN := Aside0.mk hn; clear HC hws hl hn HW
 obtain ⟨ad, rfl, hcell⟩ := Kd.at_string HCW.out (0 : Int) (by omega) (by omega); have hx0 : w1.cell? ad = some (.string w0) := by simpa [Addr.add, rdOf] using hcell
 clear hcell; have hn0 : 0 < n + 1 := by omega
 go_wp2_with (first | fail)
 with_reducible refine (verb_Kind.calls w0 kd _ HK.out).mono ?_
 rintro e_ w2 ⟨rfl, hB⟩
 have BR2 := Aside0.mk (blk_below BR.out hB); have HB2 := Aside0.mk (below_step HB.out hB); have HF2 := Aside0.mk (Kd.F_below (Kd.C_F Kd.heap_string HCW.out) hB); have hlt2 : w.heap.size < w2.heap.size := blk_lt BR2.out; have hle2 : w1.heap.size ≤ w2.heap.size := hB.size
 clear hB BR HB hlt HCW hx0 hn0; obtain rfl : n = 2 := by have h1 := HN.out; have h2 := HLN.out; omega
 obtain ⟨A1, hcut0, hcutF⟩ := cutF (some ad) (3) c0 1 (by omega); have hcut : ∀ W : World, (Instr.slice 34 (.slice (some ad) (3) c0) (some (.int .i64 1)) none none).run Tryd.prog W = .ok (.slice A1 2 (c0 - 1)) W := fun W => by simpa using hcut0 W
 have HF3 := Aside0.mk (show Kd.F Kd.string w2 (fun b => b < w1.heap.size) A1 wt.length wt from hcutF w2 (fun b => b < w1.heap.size) (w0 :: wt) (by have h := HN.out; rw [List.length_cons, ← h]) HCc.out (by have h := HF2.out; have h2 := HN.out; have e : (w0 :: wt).length = 3 := (by rw [List.length_cons, ← h2]); rw [e]; exact h)); have HC3 : Aside0 (wt.length ≤ c0 - 1) := ⟨by have h1 := HCc.out; have h2 := HN.out; omega⟩; have hc1 := HCc.out; clear hcut0 hcutF
 go_wp2_with (first | fail)
 have hlw2 : line_words.f kd = some 2 := by unfold line_words.f; rw [HWD.out]
 have HW2 := Aside0.mk hlw2; clear hlw2
 have BRa := bA BR2.out (.cells #[.int .i64 kd, .slice none 0 0, .int .u32 0, .int .i64 0, .string ⟨#[]⟩, .int .u64 0, .int .u64 0, .bool false] 37); have HBa := eA HB2.out (.cells #[.int .i64 kd, .slice none 0 0, .int .u32 0, .int .i64 0, .string ⟨#[]⟩, .int .u64 0, .int .u64 0, .bool false] 37); have HFa := Kd.F_alloc HF3.out (.cells #[.int .i64 kd, .slice none 0 0, .int .u32 0, .int .i64 0, .string ⟨#[]⟩, .int .u64 0, .int .u64 0, .bool false] 37); have BCa := blk_new w2 (.cells #[.int .i64 kd, .slice none 0 0, .int .u32 0, .int .i64 0, .string ⟨#[]⟩, .int .u64 0, .int .u64 0, .bool false] 37)
 have hlta : w.heap.size ≠ w2.heap.size := by omega
 have hle : w1.heap.size ≤ w2.heap.size := hle2; have hltc : w.heap.size < w2.heap.size := hlt2
 generalize hcb : w2.heap.size = cb at BCa hlta hle hltc ⊢; generalize (w2.alloc (.cells #[.int .i64 kd, .slice none 0 0, .int .u32 0, .int .i64 0, .string ⟨#[]⟩, .int .u64 0, .int .u64 0, .bool false] 37)) = W3 at BRa HBa HFa BCa ⊢
 with_reducible refine (line_words.calls kd 2 _ HW2.out).mono ?_
 rintro e_ w3 ⟨rfl, ⟨nd, rfl⟩⟩
 have BR3 := Aside0.mk (bN BRa nd); have HB3 := Aside0.mk (eN HBa nd); have HF3' := Aside0.mk (Kd.F_drewN HFa nd); have BC3 := Aside0.mk (bN BCa nd)
 clear BRa HBa HFa BCa BR2 HB2 HF2 HF3 HW2 hlt2; generalize (W3.drewN nd) = w3 at BR3 HB3 HF3' BC3 ⊢; have hcl3 : cb < w3.heap.size := blk_lt BC3.out; have hrl3 : w.heap.size < w3.heap.size := blk_lt BR3.out
 obtain ⟨ad1, rfl, hcl⟩ := Kd.at_string (Kd.F_now HF3'.out) (1 : Int) (by omega) (by rw [HLN.out]; omega); have hxl : w3.cell? ⟨ad1.block, ad1.off + 1, none⟩ = some (.string (wt.getD 1 ByteArray.empty)) := by simpa [Addr.add, rdOf] using hcl
 clear hcl; have hlx : ((wt.getD 1 ByteArray.empty).toList == [110, 111, 114, 101, 112, 108, 121]) = false := HLW.out; have hlx2 : ((wt.getD 1 ByteArray.empty).toList == (⟨#[110, 111, 114, 101, 112, 108, 121]⟩ : ByteArray).toList) = false := by rw [show (⟨#[110, 111, 114, 101, 112, 108, 121]⟩ : ByteArray).toList = [110, 111, 114, 101, 112, 108, 121] from by rw [ByteArray.toList_eq]]; exact HLW.out
 generalize (wt.getD 1 ByteArray.empty) = lw at hxl hlx hlx2; obtain ⟨hcy, hfy⟩ := d11 BR3
 go_wp2_with (first | fail)
 have N5 : Aside0 (w.heap.size ≤ w.heap.size) := ⟨Nat.le_refl _⟩; refine bodyPost_ret (results_cell_row rfl _ _ w.heap.size 57 #[.int .i64 3, .int .i64 0, .slice none 0 0, .int .u32 0, .int .i64 0, .string ⟨#[]⟩, .int .u64 0, .int .u64 0, .bool false, .int .i64 0, .int .i64 0] (0, 0) _ rfl (bV BR3.out) Tryd.underlying57 rfl (by kernel_rfl)) rfl ?_
 exact ParsedPost.zp (bH HB3.out)
set_option maxHeartbeats 2000000 in
set_option maxRecDepth 100000 in
theorem line_Parse.no2m (k : Nat) (s w0 : ByteArray) (wt : List ByteArray) (kd : Int) (w : World) (hL : LdS w) (hs : ¬ 160 < s.size) (hw : line_Words.f s = some (w0 :: wt)) (hk : verb_Kind.f w0 = some kd) (hk0 : ¬ kd = 0) (hkd : ¬ kd ≤ 4) (hwd : line_words.v kd = 3) (hln : ¬ wt.length = 3) (hlm : ¬ wt.length = 2) :
  Calls Tryd.prog 22 #[.string s] w (ParsedPost w (zP 3)) := by
 have hk0 : (kd == 0) = false := beq_eq_false_iff_ne.2 hk0; have hk4 : decide (kd ≤ 4) = false := decide_eq_false hkd; have HWD := Aside0.mk hwd; clear hkd hwd
 have h160 : decide (160 < s.size) = false := decide_eq_false (by omega); have h161 : decide ((160 : Int) < (s.size : Int)) = false := decide_eq_false (by omega); clear hs; obtain ⟨ws, hws⟩ : ∃ ws : List ByteArray, ws = w0 :: wt := ⟨_, rfl⟩; rw [← hws] at hw
 have HK := Aside0.mk hk; clear hk
 have HW := Aside0.mk hw; clear hw
 go_enter Tryd.func22, Tryd.ntmps22
 go_wp2_with (first | fail)
 have BR0 := blk_new w (.cells #[.int .i64 0, .int .i64 0, .slice none 0 0, .int .u32 0, .int .i64 0, .string ⟨#[]⟩, .int .u64 0, .int .u64 0, .bool false, .int .i64 0, .int .i64 0] 57); have HB0 := eA (Below.refl w.heap.size w) (.cells #[.int .i64 0, .int .i64 0, .slice none 0 0, .int .u32 0, .int .i64 0, .string ⟨#[]⟩, .int .u64 0, .int .u64 0, .bool false, .int .i64 0, .int .i64 0] 57)
 have hs0 : (w.alloc (.cells #[.int .i64 0, .int .i64 0, .slice none 0 0, .int .u32 0, .int .i64 0, .string ⟨#[]⟩, .int .u64 0, .int .u64 0, .bool false, .int .i64 0, .int .i64 0] 57)).heap.size = w.heap.size + 1 := by simp
 generalize (w.alloc (.cells #[.int .i64 0, .int .i64 0, .slice none 0 0, .int .u32 0, .int .i64 0, .string ⟨#[]⟩, .int .u64 0, .int .u64 0, .bool false, .int .i64 0, .int .i64 0] 57)) = W0 at BR0 HB0 hs0 ⊢
 with_reducible refine (line_Words.calls s ws _ HW.out).mono ?_
 rintro e_ w1 ⟨v0, rfl, hR, hB⟩
 obtain ⟨A0, c0, rfl, hc0, hC⟩ := Kd.R_reads hR; have BR := Aside0.mk (blk_below BR0 hB); have HB := Aside0.mk (below_step HB0 hB)
 have hlt : w.heap.size < w1.heap.size := blk_lt BR.out
 have HC := Aside0.mk hC; have HCc := Aside0.mk hc0; have HMX := Aside0.mk (Kd.F_max (Kd.C_F Kd.heap_string hC))
 clear BR0 HB0 hs0 hR hB hC hc0; obtain ⟨n, hn⟩ : ∃ n, n = wt.length := ⟨_, rfl⟩; have hl : ws.length = n + 1 := by rw [hws, hn]; rfl
 rw [hl] at HC HCc HMX ⊢; have HCW := Aside0.mk (show Kd.C Kd.string w1 A0 (n + 1) (w0 :: wt) by rw [← hws]; exact HC.out); have HN := Aside0.mk hn; clear HC hws hl hn HW
 obtain ⟨ad, rfl, hcell⟩ := Kd.at_string HCW.out (0 : Int) (by omega) (by omega); have hx0 : w1.cell? ad = some (.string w0) := by simpa [Addr.add, rdOf] using hcell
 clear hcell; have hn0 : 0 < n + 1 := by omega
 go_wp2_with (first | fail)
 with_reducible refine (verb_Kind.calls w0 kd _ HK.out).mono ?_
 rintro e_ w2 ⟨rfl, hB⟩
 have BR2 := Aside0.mk (blk_below BR.out hB); have HB2 := Aside0.mk (below_step HB.out hB); have HF2 := Aside0.mk (Kd.F_below (Kd.C_F Kd.heap_string HCW.out) hB); have hlt2 : w.heap.size < w2.heap.size := blk_lt BR2.out; have hle2 : w1.heap.size ≤ w2.heap.size := hB.size
 clear hB BR HB hlt HCW hx0 hn0; have hnm1 : ((n : Int) != 2) = true := bne_iff_ne.2 (by have h1 := HN.out; omega); have hnm2 : (n != 2) = true := bne_iff_ne.2 (by have h1 := HN.out; omega); have hnm3 : ¬ n = 2 := by have h1 := HN.out; omega
 have hln1 : ((n : Int) == 3) = false := beq_eq_false_iff_ne.2 (by have h1 := HN.out; omega); have hln2 : (n == 3) = false := beq_eq_false_iff_ne.2 (by have h1 := HN.out; omega); have hln3 : ¬ n = 3 := by have h1 := HN.out; omega
 clear hln hlm; obtain ⟨A1, hcut0, hcutF⟩ := cutF (some ad) (n + 1) c0 1 (by omega); have hcut : ∀ W : World, (Instr.slice 34 (.slice (some ad) (n + 1) c0) (some (.int .i64 1)) none none).run Tryd.prog W = .ok (.slice A1 n (c0 - 1)) W := fun W => by simpa using hcut0 W
 have HF3 := Aside0.mk (show Kd.F Kd.string w2 (fun b => b < w1.heap.size) A1 wt.length wt from hcutF w2 (fun b => b < w1.heap.size) (w0 :: wt) (by have h := HN.out; rw [List.length_cons, ← h]) HCc.out (by have h := HF2.out; have h2 := HN.out; have e : (w0 :: wt).length = n + 1 := (by rw [List.length_cons, ← h2]); rw [e]; exact h)); have HC3 : Aside0 (wt.length ≤ c0 - 1) := ⟨by have h1 := HCc.out; have h2 := HN.out; omega⟩; have hc1 := HCc.out; clear hcut0 hcutF
 go_wp2_with (first | fail)
 have hlw2 : line_words.f kd = some 3 := by unfold line_words.f; rw [HWD.out]
 have HW2 := Aside0.mk hlw2; clear hlw2
 have BRa := bA BR2.out (.cells #[.int .i64 kd, .slice none 0 0, .int .u32 0, .int .i64 0, .string ⟨#[]⟩, .int .u64 0, .int .u64 0, .bool false] 37); have HBa := eA HB2.out (.cells #[.int .i64 kd, .slice none 0 0, .int .u32 0, .int .i64 0, .string ⟨#[]⟩, .int .u64 0, .int .u64 0, .bool false] 37); have HFa := Kd.F_alloc HF3.out (.cells #[.int .i64 kd, .slice none 0 0, .int .u32 0, .int .i64 0, .string ⟨#[]⟩, .int .u64 0, .int .u64 0, .bool false] 37); have BCa := blk_new w2 (.cells #[.int .i64 kd, .slice none 0 0, .int .u32 0, .int .i64 0, .string ⟨#[]⟩, .int .u64 0, .int .u64 0, .bool false] 37)
 have hlta : w.heap.size ≠ w2.heap.size := by omega
 have hle : w1.heap.size ≤ w2.heap.size := hle2; have hltc : w.heap.size < w2.heap.size := hlt2
 generalize hcb : w2.heap.size = cb at BCa hlta hle hltc ⊢; generalize (w2.alloc (.cells #[.int .i64 kd, .slice none 0 0, .int .u32 0, .int .i64 0, .string ⟨#[]⟩, .int .u64 0, .int .u64 0, .bool false] 37)) = W3 at BRa HBa HFa BCa ⊢
 with_reducible refine (line_words.calls kd 3 _ HW2.out).mono ?_
 rintro e_ w3 ⟨rfl, ⟨nd, rfl⟩⟩
 have BR3 := Aside0.mk (bN BRa nd); have HB3 := Aside0.mk (eN HBa nd); have HF3' := Aside0.mk (Kd.F_drewN HFa nd); have BC3 := Aside0.mk (bN BCa nd)
 clear BRa HBa HFa BCa BR2 HB2 HF2 HF3 HW2 hlt2; generalize (W3.drewN nd) = w3 at BR3 HB3 HF3' BC3 ⊢; have hcl3 : cb < w3.heap.size := blk_lt BC3.out; have hrl3 : w.heap.size < w3.heap.size := blk_lt BR3.out
 obtain ⟨hcy, hfy⟩ := d11 BR3
 go_wp2_with (first | fail)
 have N5 : Aside0 (w.heap.size ≤ w.heap.size) := ⟨Nat.le_refl _⟩; refine bodyPost_ret (results_cell_row rfl _ _ w.heap.size 57 #[.int .i64 3, .int .i64 0, .slice none 0 0, .int .u32 0, .int .i64 0, .string ⟨#[]⟩, .int .u64 0, .int .u64 0, .bool false, .int .i64 0, .int .i64 0] (0, 0) _ rfl (bV BR3.out) Tryd.underlying57 rfl (by kernel_rfl)) rfl ?_
 exact ParsedPost.zp (bH HB3.out)
set_option maxHeartbeats 2000000 in
set_option maxRecDepth 100000 in
theorem line_Parse.no2b (k : Nat) (s w0 : ByteArray) (wt : List ByteArray) (kd : Int) (w : World) (hL : LdS w) (hs : ¬ 160 < s.size) (hw : line_Words.f s = some (w0 :: wt)) (hk : verb_Kind.f w0 = some kd) (hk0 : ¬ kd = 0) (hkd : ¬ kd ≤ 4) (hwd : line_words.v kd = 3) (hln : wt.length = 3) (hlw : ((wt.getD 2 ByteArray.empty).toList == [110, 111, 114, 101, 112, 108, 121]) = false) :
  Calls Tryd.prog 22 #[.string s] w (ParsedPost w (zP 3)) := by
 have hk0 : (kd == 0) = false := beq_eq_false_iff_ne.2 hk0; have hk4 : decide (kd ≤ 4) = false := decide_eq_false hkd; have HWD := Aside0.mk hwd; clear hkd hwd
 have HLN := Aside0.mk hln; clear hln
 have HLW := Aside0.mk hlw; clear hlw
 have h160 : decide (160 < s.size) = false := decide_eq_false (by omega); have h161 : decide ((160 : Int) < (s.size : Int)) = false := decide_eq_false (by omega); clear hs; obtain ⟨ws, hws⟩ : ∃ ws : List ByteArray, ws = w0 :: wt := ⟨_, rfl⟩; rw [← hws] at hw
 have HK := Aside0.mk hk; clear hk
 have HW := Aside0.mk hw; clear hw
 go_enter Tryd.func22, Tryd.ntmps22
 go_wp2_with (first | fail)
 have BR0 := blk_new w (.cells #[.int .i64 0, .int .i64 0, .slice none 0 0, .int .u32 0, .int .i64 0, .string ⟨#[]⟩, .int .u64 0, .int .u64 0, .bool false, .int .i64 0, .int .i64 0] 57); have HB0 := eA (Below.refl w.heap.size w) (.cells #[.int .i64 0, .int .i64 0, .slice none 0 0, .int .u32 0, .int .i64 0, .string ⟨#[]⟩, .int .u64 0, .int .u64 0, .bool false, .int .i64 0, .int .i64 0] 57)
 have hs0 : (w.alloc (.cells #[.int .i64 0, .int .i64 0, .slice none 0 0, .int .u32 0, .int .i64 0, .string ⟨#[]⟩, .int .u64 0, .int .u64 0, .bool false, .int .i64 0, .int .i64 0] 57)).heap.size = w.heap.size + 1 := by simp
 generalize (w.alloc (.cells #[.int .i64 0, .int .i64 0, .slice none 0 0, .int .u32 0, .int .i64 0, .string ⟨#[]⟩, .int .u64 0, .int .u64 0, .bool false, .int .i64 0, .int .i64 0] 57)) = W0 at BR0 HB0 hs0 ⊢
 with_reducible refine (line_Words.calls s ws _ HW.out).mono ?_
 rintro e_ w1 ⟨v0, rfl, hR, hB⟩
 obtain ⟨A0, c0, rfl, hc0, hC⟩ := Kd.R_reads hR; have BR := Aside0.mk (blk_below BR0 hB); have HB := Aside0.mk (below_step HB0 hB)
 have hlt : w.heap.size < w1.heap.size := blk_lt BR.out
 have HC := Aside0.mk hC; have HCc := Aside0.mk hc0; have HMX := Aside0.mk (Kd.F_max (Kd.C_F Kd.heap_string hC))
 clear BR0 HB0 hs0 hR hB hC hc0; obtain ⟨n, hn⟩ : ∃ n, n = wt.length := ⟨_, rfl⟩; have hl : ws.length = n + 1 := by rw [hws, hn]; rfl
 rw [hl] at HC HCc HMX ⊢; have HCW := Aside0.mk (show Kd.C Kd.string w1 A0 (n + 1) (w0 :: wt) by rw [← hws]; exact HC.out); have HN := Aside0.mk hn; clear HC hws hl hn HW
 obtain ⟨ad, rfl, hcell⟩ := Kd.at_string HCW.out (0 : Int) (by omega) (by omega); have hx0 : w1.cell? ad = some (.string w0) := by simpa [Addr.add, rdOf] using hcell
 clear hcell; have hn0 : 0 < n + 1 := by omega
 go_wp2_with (first | fail)
 with_reducible refine (verb_Kind.calls w0 kd _ HK.out).mono ?_
 rintro e_ w2 ⟨rfl, hB⟩
 have BR2 := Aside0.mk (blk_below BR.out hB); have HB2 := Aside0.mk (below_step HB.out hB); have HF2 := Aside0.mk (Kd.F_below (Kd.C_F Kd.heap_string HCW.out) hB); have hlt2 : w.heap.size < w2.heap.size := blk_lt BR2.out; have hle2 : w1.heap.size ≤ w2.heap.size := hB.size
 clear hB BR HB hlt HCW hx0 hn0; obtain rfl : n = 3 := by have h1 := HN.out; have h2 := HLN.out; omega
 obtain ⟨A1, hcut0, hcutF⟩ := cutF (some ad) (4) c0 1 (by omega); have hcut : ∀ W : World, (Instr.slice 34 (.slice (some ad) (4) c0) (some (.int .i64 1)) none none).run Tryd.prog W = .ok (.slice A1 3 (c0 - 1)) W := fun W => by simpa using hcut0 W
 have HF3 := Aside0.mk (show Kd.F Kd.string w2 (fun b => b < w1.heap.size) A1 wt.length wt from hcutF w2 (fun b => b < w1.heap.size) (w0 :: wt) (by have h := HN.out; rw [List.length_cons, ← h]) HCc.out (by have h := HF2.out; have h2 := HN.out; have e : (w0 :: wt).length = 4 := (by rw [List.length_cons, ← h2]); rw [e]; exact h)); have HC3 : Aside0 (wt.length ≤ c0 - 1) := ⟨by have h1 := HCc.out; have h2 := HN.out; omega⟩; have hc1 := HCc.out; clear hcut0 hcutF
 go_wp2_with (first | fail)
 have hlw2 : line_words.f kd = some 3 := by unfold line_words.f; rw [HWD.out]
 have HW2 := Aside0.mk hlw2; clear hlw2
 have BRa := bA BR2.out (.cells #[.int .i64 kd, .slice none 0 0, .int .u32 0, .int .i64 0, .string ⟨#[]⟩, .int .u64 0, .int .u64 0, .bool false] 37); have HBa := eA HB2.out (.cells #[.int .i64 kd, .slice none 0 0, .int .u32 0, .int .i64 0, .string ⟨#[]⟩, .int .u64 0, .int .u64 0, .bool false] 37); have HFa := Kd.F_alloc HF3.out (.cells #[.int .i64 kd, .slice none 0 0, .int .u32 0, .int .i64 0, .string ⟨#[]⟩, .int .u64 0, .int .u64 0, .bool false] 37); have BCa := blk_new w2 (.cells #[.int .i64 kd, .slice none 0 0, .int .u32 0, .int .i64 0, .string ⟨#[]⟩, .int .u64 0, .int .u64 0, .bool false] 37)
 have hlta : w.heap.size ≠ w2.heap.size := by omega
 have hle : w1.heap.size ≤ w2.heap.size := hle2; have hltc : w.heap.size < w2.heap.size := hlt2
 generalize hcb : w2.heap.size = cb at BCa hlta hle hltc ⊢; generalize (w2.alloc (.cells #[.int .i64 kd, .slice none 0 0, .int .u32 0, .int .i64 0, .string ⟨#[]⟩, .int .u64 0, .int .u64 0, .bool false] 37)) = W3 at BRa HBa HFa BCa ⊢
 with_reducible refine (line_words.calls kd 3 _ HW2.out).mono ?_
 rintro e_ w3 ⟨rfl, ⟨nd, rfl⟩⟩
 have BR3 := Aside0.mk (bN BRa nd); have HB3 := Aside0.mk (eN HBa nd); have HF3' := Aside0.mk (Kd.F_drewN HFa nd); have BC3 := Aside0.mk (bN BCa nd)
 clear BRa HBa HFa BCa BR2 HB2 HF2 HF3 HW2 hlt2; generalize (W3.drewN nd) = w3 at BR3 HB3 HF3' BC3 ⊢; have hcl3 : cb < w3.heap.size := blk_lt BC3.out; have hrl3 : w.heap.size < w3.heap.size := blk_lt BR3.out
 obtain ⟨ad1, rfl, hcl⟩ := Kd.at_string (Kd.F_now HF3'.out) (2 : Int) (by omega) (by rw [HLN.out]; omega); have hxl : w3.cell? ⟨ad1.block, ad1.off + 2, none⟩ = some (.string (wt.getD 2 ByteArray.empty)) := by simpa [Addr.add, rdOf] using hcl
 clear hcl; have hlx : ((wt.getD 2 ByteArray.empty).toList == [110, 111, 114, 101, 112, 108, 121]) = false := HLW.out; have hlx2 : ((wt.getD 2 ByteArray.empty).toList == (⟨#[110, 111, 114, 101, 112, 108, 121]⟩ : ByteArray).toList) = false := by rw [show (⟨#[110, 111, 114, 101, 112, 108, 121]⟩ : ByteArray).toList = [110, 111, 114, 101, 112, 108, 121] from by rw [ByteArray.toList_eq]]; exact HLW.out
 generalize (wt.getD 2 ByteArray.empty) = lw at hxl hlx hlx2; obtain ⟨hcy, hfy⟩ := d11 BR3
 go_wp2_with (first | fail)
 have N5 : Aside0 (w.heap.size ≤ w.heap.size) := ⟨Nat.le_refl _⟩; refine bodyPost_ret (results_cell_row rfl _ _ w.heap.size 57 #[.int .i64 3, .int .i64 0, .slice none 0 0, .int .u32 0, .int .i64 0, .string ⟨#[]⟩, .int .u64 0, .int .u64 0, .bool false, .int .i64 0, .int .i64 0] (0, 0) _ rfl (bV BR3.out) Tryd.underlying57 rfl (by kernel_rfl)) rfl ?_
 exact ParsedPost.zp (bH HB3.out)
set_option maxHeartbeats 2000000 in
set_option maxRecDepth 100000 in
theorem line_Parse.no4m (k : Nat) (s w0 : ByteArray) (wt : List ByteArray) (kd : Int) (w : World) (hL : LdS w) (hs : ¬ 160 < s.size) (hw : line_Words.f s = some (w0 :: wt)) (hk : verb_Kind.f w0 = some kd) (hk0 : ¬ kd = 0) (hkd : ¬ kd ≤ 4) (hwd : line_words.v kd = 5) (hln : ¬ wt.length = 5) (hlm : ¬ wt.length = 4) :
  Calls Tryd.prog 22 #[.string s] w (ParsedPost w (zP 3)) := by
 have hk0 : (kd == 0) = false := beq_eq_false_iff_ne.2 hk0; have hk4 : decide (kd ≤ 4) = false := decide_eq_false hkd; have HWD := Aside0.mk hwd; clear hkd hwd
 have h160 : decide (160 < s.size) = false := decide_eq_false (by omega); have h161 : decide ((160 : Int) < (s.size : Int)) = false := decide_eq_false (by omega); clear hs; obtain ⟨ws, hws⟩ : ∃ ws : List ByteArray, ws = w0 :: wt := ⟨_, rfl⟩; rw [← hws] at hw
 have HK := Aside0.mk hk; clear hk
 have HW := Aside0.mk hw; clear hw
 go_enter Tryd.func22, Tryd.ntmps22
 go_wp2_with (first | fail)
 have BR0 := blk_new w (.cells #[.int .i64 0, .int .i64 0, .slice none 0 0, .int .u32 0, .int .i64 0, .string ⟨#[]⟩, .int .u64 0, .int .u64 0, .bool false, .int .i64 0, .int .i64 0] 57); have HB0 := eA (Below.refl w.heap.size w) (.cells #[.int .i64 0, .int .i64 0, .slice none 0 0, .int .u32 0, .int .i64 0, .string ⟨#[]⟩, .int .u64 0, .int .u64 0, .bool false, .int .i64 0, .int .i64 0] 57)
 have hs0 : (w.alloc (.cells #[.int .i64 0, .int .i64 0, .slice none 0 0, .int .u32 0, .int .i64 0, .string ⟨#[]⟩, .int .u64 0, .int .u64 0, .bool false, .int .i64 0, .int .i64 0] 57)).heap.size = w.heap.size + 1 := by simp
 generalize (w.alloc (.cells #[.int .i64 0, .int .i64 0, .slice none 0 0, .int .u32 0, .int .i64 0, .string ⟨#[]⟩, .int .u64 0, .int .u64 0, .bool false, .int .i64 0, .int .i64 0] 57)) = W0 at BR0 HB0 hs0 ⊢
 with_reducible refine (line_Words.calls s ws _ HW.out).mono ?_
 rintro e_ w1 ⟨v0, rfl, hR, hB⟩
 obtain ⟨A0, c0, rfl, hc0, hC⟩ := Kd.R_reads hR; have BR := Aside0.mk (blk_below BR0 hB); have HB := Aside0.mk (below_step HB0 hB)
 have hlt : w.heap.size < w1.heap.size := blk_lt BR.out
 have HC := Aside0.mk hC; have HCc := Aside0.mk hc0; have HMX := Aside0.mk (Kd.F_max (Kd.C_F Kd.heap_string hC))
 clear BR0 HB0 hs0 hR hB hC hc0; obtain ⟨n, hn⟩ : ∃ n, n = wt.length := ⟨_, rfl⟩; have hl : ws.length = n + 1 := by rw [hws, hn]; rfl
 rw [hl] at HC HCc HMX ⊢; have HCW := Aside0.mk (show Kd.C Kd.string w1 A0 (n + 1) (w0 :: wt) by rw [← hws]; exact HC.out); have HN := Aside0.mk hn; clear HC hws hl hn HW
 obtain ⟨ad, rfl, hcell⟩ := Kd.at_string HCW.out (0 : Int) (by omega) (by omega); have hx0 : w1.cell? ad = some (.string w0) := by simpa [Addr.add, rdOf] using hcell
 clear hcell; have hn0 : 0 < n + 1 := by omega
 go_wp2_with (first | fail)
 with_reducible refine (verb_Kind.calls w0 kd _ HK.out).mono ?_
 rintro e_ w2 ⟨rfl, hB⟩
 have BR2 := Aside0.mk (blk_below BR.out hB); have HB2 := Aside0.mk (below_step HB.out hB); have HF2 := Aside0.mk (Kd.F_below (Kd.C_F Kd.heap_string HCW.out) hB); have hlt2 : w.heap.size < w2.heap.size := blk_lt BR2.out; have hle2 : w1.heap.size ≤ w2.heap.size := hB.size
 clear hB BR HB hlt HCW hx0 hn0; have hnm1 : ((n : Int) != 4) = true := bne_iff_ne.2 (by have h1 := HN.out; omega); have hnm2 : (n != 4) = true := bne_iff_ne.2 (by have h1 := HN.out; omega); have hnm3 : ¬ n = 4 := by have h1 := HN.out; omega
 have hln1 : ((n : Int) == 5) = false := beq_eq_false_iff_ne.2 (by have h1 := HN.out; omega); have hln2 : (n == 5) = false := beq_eq_false_iff_ne.2 (by have h1 := HN.out; omega); have hln3 : ¬ n = 5 := by have h1 := HN.out; omega
 clear hln hlm; obtain ⟨A1, hcut0, hcutF⟩ := cutF (some ad) (n + 1) c0 1 (by omega); have hcut : ∀ W : World, (Instr.slice 34 (.slice (some ad) (n + 1) c0) (some (.int .i64 1)) none none).run Tryd.prog W = .ok (.slice A1 n (c0 - 1)) W := fun W => by simpa using hcut0 W
 have HF3 := Aside0.mk (show Kd.F Kd.string w2 (fun b => b < w1.heap.size) A1 wt.length wt from hcutF w2 (fun b => b < w1.heap.size) (w0 :: wt) (by have h := HN.out; rw [List.length_cons, ← h]) HCc.out (by have h := HF2.out; have h2 := HN.out; have e : (w0 :: wt).length = n + 1 := (by rw [List.length_cons, ← h2]); rw [e]; exact h)); have HC3 : Aside0 (wt.length ≤ c0 - 1) := ⟨by have h1 := HCc.out; have h2 := HN.out; omega⟩; have hc1 := HCc.out; clear hcut0 hcutF
 go_wp2_with (first | fail)
 have hlw2 : line_words.f kd = some 5 := by unfold line_words.f; rw [HWD.out]
 have HW2 := Aside0.mk hlw2; clear hlw2
 have BRa := bA BR2.out (.cells #[.int .i64 kd, .slice none 0 0, .int .u32 0, .int .i64 0, .string ⟨#[]⟩, .int .u64 0, .int .u64 0, .bool false] 37); have HBa := eA HB2.out (.cells #[.int .i64 kd, .slice none 0 0, .int .u32 0, .int .i64 0, .string ⟨#[]⟩, .int .u64 0, .int .u64 0, .bool false] 37); have HFa := Kd.F_alloc HF3.out (.cells #[.int .i64 kd, .slice none 0 0, .int .u32 0, .int .i64 0, .string ⟨#[]⟩, .int .u64 0, .int .u64 0, .bool false] 37); have BCa := blk_new w2 (.cells #[.int .i64 kd, .slice none 0 0, .int .u32 0, .int .i64 0, .string ⟨#[]⟩, .int .u64 0, .int .u64 0, .bool false] 37)
 have hlta : w.heap.size ≠ w2.heap.size := by omega
 have hle : w1.heap.size ≤ w2.heap.size := hle2; have hltc : w.heap.size < w2.heap.size := hlt2
 generalize hcb : w2.heap.size = cb at BCa hlta hle hltc ⊢; generalize (w2.alloc (.cells #[.int .i64 kd, .slice none 0 0, .int .u32 0, .int .i64 0, .string ⟨#[]⟩, .int .u64 0, .int .u64 0, .bool false] 37)) = W3 at BRa HBa HFa BCa ⊢
 with_reducible refine (line_words.calls kd 5 _ HW2.out).mono ?_
 rintro e_ w3 ⟨rfl, ⟨nd, rfl⟩⟩
 have BR3 := Aside0.mk (bN BRa nd); have HB3 := Aside0.mk (eN HBa nd); have HF3' := Aside0.mk (Kd.F_drewN HFa nd); have BC3 := Aside0.mk (bN BCa nd)
 clear BRa HBa HFa BCa BR2 HB2 HF2 HF3 HW2 hlt2; generalize (W3.drewN nd) = w3 at BR3 HB3 HF3' BC3 ⊢; have hcl3 : cb < w3.heap.size := blk_lt BC3.out; have hrl3 : w.heap.size < w3.heap.size := blk_lt BR3.out
 obtain ⟨hcy, hfy⟩ := d11 BR3
 go_wp2_with (first | fail)
 have N5 : Aside0 (w.heap.size ≤ w.heap.size) := ⟨Nat.le_refl _⟩; refine bodyPost_ret (results_cell_row rfl _ _ w.heap.size 57 #[.int .i64 3, .int .i64 0, .slice none 0 0, .int .u32 0, .int .i64 0, .string ⟨#[]⟩, .int .u64 0, .int .u64 0, .bool false, .int .i64 0, .int .i64 0] (0, 0) _ rfl (bV BR3.out) Tryd.underlying57 rfl (by kernel_rfl)) rfl ?_
 exact ParsedPost.zp (bH HB3.out)
set_option maxHeartbeats 2000000 in
set_option maxRecDepth 100000 in
theorem line_Parse.no4b (k : Nat) (s w0 : ByteArray) (wt : List ByteArray) (kd : Int) (w : World) (hL : LdS w) (hs : ¬ 160 < s.size) (hw : line_Words.f s = some (w0 :: wt)) (hk : verb_Kind.f w0 = some kd) (hk0 : ¬ kd = 0) (hkd : ¬ kd ≤ 4) (hwd : line_words.v kd = 5) (hln : wt.length = 5) (hlw : ((wt.getD 4 ByteArray.empty).toList == [110, 111, 114, 101, 112, 108, 121]) = false) :
  Calls Tryd.prog 22 #[.string s] w (ParsedPost w (zP 3)) := by
 have hk0 : (kd == 0) = false := beq_eq_false_iff_ne.2 hk0; have hk4 : decide (kd ≤ 4) = false := decide_eq_false hkd; have HWD := Aside0.mk hwd; clear hkd hwd
 have HLN := Aside0.mk hln; clear hln
 have HLW := Aside0.mk hlw; clear hlw
 have h160 : decide (160 < s.size) = false := decide_eq_false (by omega); have h161 : decide ((160 : Int) < (s.size : Int)) = false := decide_eq_false (by omega); clear hs; obtain ⟨ws, hws⟩ : ∃ ws : List ByteArray, ws = w0 :: wt := ⟨_, rfl⟩; rw [← hws] at hw
 have HK := Aside0.mk hk; clear hk
 have HW := Aside0.mk hw; clear hw
 go_enter Tryd.func22, Tryd.ntmps22
 go_wp2_with (first | fail)
 have BR0 := blk_new w (.cells #[.int .i64 0, .int .i64 0, .slice none 0 0, .int .u32 0, .int .i64 0, .string ⟨#[]⟩, .int .u64 0, .int .u64 0, .bool false, .int .i64 0, .int .i64 0] 57); have HB0 := eA (Below.refl w.heap.size w) (.cells #[.int .i64 0, .int .i64 0, .slice none 0 0, .int .u32 0, .int .i64 0, .string ⟨#[]⟩, .int .u64 0, .int .u64 0, .bool false, .int .i64 0, .int .i64 0] 57)
 have hs0 : (w.alloc (.cells #[.int .i64 0, .int .i64 0, .slice none 0 0, .int .u32 0, .int .i64 0, .string ⟨#[]⟩, .int .u64 0, .int .u64 0, .bool false, .int .i64 0, .int .i64 0] 57)).heap.size = w.heap.size + 1 := by simp
 generalize (w.alloc (.cells #[.int .i64 0, .int .i64 0, .slice none 0 0, .int .u32 0, .int .i64 0, .string ⟨#[]⟩, .int .u64 0, .int .u64 0, .bool false, .int .i64 0, .int .i64 0] 57)) = W0 at BR0 HB0 hs0 ⊢
 with_reducible refine (line_Words.calls s ws _ HW.out).mono ?_
 rintro e_ w1 ⟨v0, rfl, hR, hB⟩
 obtain ⟨A0, c0, rfl, hc0, hC⟩ := Kd.R_reads hR; have BR := Aside0.mk (blk_below BR0 hB); have HB := Aside0.mk (below_step HB0 hB)
 have hlt : w.heap.size < w1.heap.size := blk_lt BR.out
 have HC := Aside0.mk hC; have HCc := Aside0.mk hc0; have HMX := Aside0.mk (Kd.F_max (Kd.C_F Kd.heap_string hC))
 clear BR0 HB0 hs0 hR hB hC hc0; obtain ⟨n, hn⟩ : ∃ n, n = wt.length := ⟨_, rfl⟩; have hl : ws.length = n + 1 := by rw [hws, hn]; rfl
 rw [hl] at HC HCc HMX ⊢; have HCW := Aside0.mk (show Kd.C Kd.string w1 A0 (n + 1) (w0 :: wt) by rw [← hws]; exact HC.out); have HN := Aside0.mk hn; clear HC hws hl hn HW
 obtain ⟨ad, rfl, hcell⟩ := Kd.at_string HCW.out (0 : Int) (by omega) (by omega); have hx0 : w1.cell? ad = some (.string w0) := by simpa [Addr.add, rdOf] using hcell
 clear hcell; have hn0 : 0 < n + 1 := by omega
 go_wp2_with (first | fail)
 with_reducible refine (verb_Kind.calls w0 kd _ HK.out).mono ?_
 rintro e_ w2 ⟨rfl, hB⟩
 have BR2 := Aside0.mk (blk_below BR.out hB); have HB2 := Aside0.mk (below_step HB.out hB); have HF2 := Aside0.mk (Kd.F_below (Kd.C_F Kd.heap_string HCW.out) hB); have hlt2 : w.heap.size < w2.heap.size := blk_lt BR2.out; have hle2 : w1.heap.size ≤ w2.heap.size := hB.size
 clear hB BR HB hlt HCW hx0 hn0; obtain rfl : n = 5 := by have h1 := HN.out; have h2 := HLN.out; omega
 obtain ⟨A1, hcut0, hcutF⟩ := cutF (some ad) (6) c0 1 (by omega); have hcut : ∀ W : World, (Instr.slice 34 (.slice (some ad) (6) c0) (some (.int .i64 1)) none none).run Tryd.prog W = .ok (.slice A1 5 (c0 - 1)) W := fun W => by simpa using hcut0 W
 have HF3 := Aside0.mk (show Kd.F Kd.string w2 (fun b => b < w1.heap.size) A1 wt.length wt from hcutF w2 (fun b => b < w1.heap.size) (w0 :: wt) (by have h := HN.out; rw [List.length_cons, ← h]) HCc.out (by have h := HF2.out; have h2 := HN.out; have e : (w0 :: wt).length = 6 := (by rw [List.length_cons, ← h2]); rw [e]; exact h)); have HC3 : Aside0 (wt.length ≤ c0 - 1) := ⟨by have h1 := HCc.out; have h2 := HN.out; omega⟩; have hc1 := HCc.out; clear hcut0 hcutF
 go_wp2_with (first | fail)
 have hlw2 : line_words.f kd = some 5 := by unfold line_words.f; rw [HWD.out]
 have HW2 := Aside0.mk hlw2; clear hlw2
 have BRa := bA BR2.out (.cells #[.int .i64 kd, .slice none 0 0, .int .u32 0, .int .i64 0, .string ⟨#[]⟩, .int .u64 0, .int .u64 0, .bool false] 37); have HBa := eA HB2.out (.cells #[.int .i64 kd, .slice none 0 0, .int .u32 0, .int .i64 0, .string ⟨#[]⟩, .int .u64 0, .int .u64 0, .bool false] 37); have HFa := Kd.F_alloc HF3.out (.cells #[.int .i64 kd, .slice none 0 0, .int .u32 0, .int .i64 0, .string ⟨#[]⟩, .int .u64 0, .int .u64 0, .bool false] 37); have BCa := blk_new w2 (.cells #[.int .i64 kd, .slice none 0 0, .int .u32 0, .int .i64 0, .string ⟨#[]⟩, .int .u64 0, .int .u64 0, .bool false] 37)
 have hlta : w.heap.size ≠ w2.heap.size := by omega
 have hle : w1.heap.size ≤ w2.heap.size := hle2; have hltc : w.heap.size < w2.heap.size := hlt2
 generalize hcb : w2.heap.size = cb at BCa hlta hle hltc ⊢; generalize (w2.alloc (.cells #[.int .i64 kd, .slice none 0 0, .int .u32 0, .int .i64 0, .string ⟨#[]⟩, .int .u64 0, .int .u64 0, .bool false] 37)) = W3 at BRa HBa HFa BCa ⊢
 with_reducible refine (line_words.calls kd 5 _ HW2.out).mono ?_
 rintro e_ w3 ⟨rfl, ⟨nd, rfl⟩⟩
 have BR3 := Aside0.mk (bN BRa nd); have HB3 := Aside0.mk (eN HBa nd); have HF3' := Aside0.mk (Kd.F_drewN HFa nd); have BC3 := Aside0.mk (bN BCa nd)
 clear BRa HBa HFa BCa BR2 HB2 HF2 HF3 HW2 hlt2; generalize (W3.drewN nd) = w3 at BR3 HB3 HF3' BC3 ⊢; have hcl3 : cb < w3.heap.size := blk_lt BC3.out; have hrl3 : w.heap.size < w3.heap.size := blk_lt BR3.out
 obtain ⟨ad1, rfl, hcl⟩ := Kd.at_string (Kd.F_now HF3'.out) (4 : Int) (by omega) (by rw [HLN.out]; omega); have hxl : w3.cell? ⟨ad1.block, ad1.off + 4, none⟩ = some (.string (wt.getD 4 ByteArray.empty)) := by simpa [Addr.add, rdOf] using hcl
 clear hcl; have hlx : ((wt.getD 4 ByteArray.empty).toList == [110, 111, 114, 101, 112, 108, 121]) = false := HLW.out; have hlx2 : ((wt.getD 4 ByteArray.empty).toList == (⟨#[110, 111, 114, 101, 112, 108, 121]⟩ : ByteArray).toList) = false := by rw [show (⟨#[110, 111, 114, 101, 112, 108, 121]⟩ : ByteArray).toList = [110, 111, 114, 101, 112, 108, 121] from by rw [ByteArray.toList_eq]]; exact HLW.out
 generalize (wt.getD 4 ByteArray.empty) = lw at hxl hlx hlx2; obtain ⟨hcy, hfy⟩ := d11 BR3
 go_wp2_with (first | fail)
 have N5 : Aside0 (w.heap.size ≤ w.heap.size) := ⟨Nat.le_refl _⟩; refine bodyPost_ret (results_cell_row rfl _ _ w.heap.size 57 #[.int .i64 3, .int .i64 0, .slice none 0 0, .int .u32 0, .int .i64 0, .string ⟨#[]⟩, .int .u64 0, .int .u64 0, .bool false, .int .i64 0, .int .i64 0] (0, 0) _ rfl (bV BR3.out) Tryd.underlying57 rfl (by kernel_rfl)) rfl ?_
 exact ParsedPost.zp (bH HB3.out)
set_option maxHeartbeats 2000000 in
set_option maxRecDepth 100000 in
theorem line_Parse.no5m (k : Nat) (s w0 : ByteArray) (wt : List ByteArray) (kd : Int) (w : World) (hL : LdS w) (hs : ¬ 160 < s.size) (hw : line_Words.f s = some (w0 :: wt)) (hk : verb_Kind.f w0 = some kd) (hk0 : ¬ kd = 0) (hkd : ¬ kd ≤ 4) (hwd : line_words.v kd = 6) (hln : ¬ wt.length = 6) (hlm : ¬ wt.length = 5) :
  Calls Tryd.prog 22 #[.string s] w (ParsedPost w (zP 3)) := by
 have hk0 : (kd == 0) = false := beq_eq_false_iff_ne.2 hk0; have hk4 : decide (kd ≤ 4) = false := decide_eq_false hkd; have HWD := Aside0.mk hwd; clear hkd hwd
 have h160 : decide (160 < s.size) = false := decide_eq_false (by omega); have h161 : decide ((160 : Int) < (s.size : Int)) = false := decide_eq_false (by omega); clear hs; obtain ⟨ws, hws⟩ : ∃ ws : List ByteArray, ws = w0 :: wt := ⟨_, rfl⟩; rw [← hws] at hw
 have HK := Aside0.mk hk; clear hk
 have HW := Aside0.mk hw; clear hw
 go_enter Tryd.func22, Tryd.ntmps22
 go_wp2_with (first | fail)
 have BR0 := blk_new w (.cells #[.int .i64 0, .int .i64 0, .slice none 0 0, .int .u32 0, .int .i64 0, .string ⟨#[]⟩, .int .u64 0, .int .u64 0, .bool false, .int .i64 0, .int .i64 0] 57); have HB0 := eA (Below.refl w.heap.size w) (.cells #[.int .i64 0, .int .i64 0, .slice none 0 0, .int .u32 0, .int .i64 0, .string ⟨#[]⟩, .int .u64 0, .int .u64 0, .bool false, .int .i64 0, .int .i64 0] 57)
 have hs0 : (w.alloc (.cells #[.int .i64 0, .int .i64 0, .slice none 0 0, .int .u32 0, .int .i64 0, .string ⟨#[]⟩, .int .u64 0, .int .u64 0, .bool false, .int .i64 0, .int .i64 0] 57)).heap.size = w.heap.size + 1 := by simp
 generalize (w.alloc (.cells #[.int .i64 0, .int .i64 0, .slice none 0 0, .int .u32 0, .int .i64 0, .string ⟨#[]⟩, .int .u64 0, .int .u64 0, .bool false, .int .i64 0, .int .i64 0] 57)) = W0 at BR0 HB0 hs0 ⊢
 with_reducible refine (line_Words.calls s ws _ HW.out).mono ?_
 rintro e_ w1 ⟨v0, rfl, hR, hB⟩
 obtain ⟨A0, c0, rfl, hc0, hC⟩ := Kd.R_reads hR; have BR := Aside0.mk (blk_below BR0 hB); have HB := Aside0.mk (below_step HB0 hB)
 have hlt : w.heap.size < w1.heap.size := blk_lt BR.out
 have HC := Aside0.mk hC; have HCc := Aside0.mk hc0; have HMX := Aside0.mk (Kd.F_max (Kd.C_F Kd.heap_string hC))
 clear BR0 HB0 hs0 hR hB hC hc0; obtain ⟨n, hn⟩ : ∃ n, n = wt.length := ⟨_, rfl⟩; have hl : ws.length = n + 1 := by rw [hws, hn]; rfl
 rw [hl] at HC HCc HMX ⊢; have HCW := Aside0.mk (show Kd.C Kd.string w1 A0 (n + 1) (w0 :: wt) by rw [← hws]; exact HC.out); have HN := Aside0.mk hn; clear HC hws hl hn HW
 obtain ⟨ad, rfl, hcell⟩ := Kd.at_string HCW.out (0 : Int) (by omega) (by omega); have hx0 : w1.cell? ad = some (.string w0) := by simpa [Addr.add, rdOf] using hcell
 clear hcell; have hn0 : 0 < n + 1 := by omega
 go_wp2_with (first | fail)
 with_reducible refine (verb_Kind.calls w0 kd _ HK.out).mono ?_
 rintro e_ w2 ⟨rfl, hB⟩
 have BR2 := Aside0.mk (blk_below BR.out hB); have HB2 := Aside0.mk (below_step HB.out hB); have HF2 := Aside0.mk (Kd.F_below (Kd.C_F Kd.heap_string HCW.out) hB); have hlt2 : w.heap.size < w2.heap.size := blk_lt BR2.out; have hle2 : w1.heap.size ≤ w2.heap.size := hB.size
 clear hB BR HB hlt HCW hx0 hn0; have hnm1 : ((n : Int) != 5) = true := bne_iff_ne.2 (by have h1 := HN.out; omega); have hnm2 : (n != 5) = true := bne_iff_ne.2 (by have h1 := HN.out; omega); have hnm3 : ¬ n = 5 := by have h1 := HN.out; omega
 have hln1 : ((n : Int) == 6) = false := beq_eq_false_iff_ne.2 (by have h1 := HN.out; omega); have hln2 : (n == 6) = false := beq_eq_false_iff_ne.2 (by have h1 := HN.out; omega); have hln3 : ¬ n = 6 := by have h1 := HN.out; omega
 clear hln hlm; obtain ⟨A1, hcut0, hcutF⟩ := cutF (some ad) (n + 1) c0 1 (by omega); have hcut : ∀ W : World, (Instr.slice 34 (.slice (some ad) (n + 1) c0) (some (.int .i64 1)) none none).run Tryd.prog W = .ok (.slice A1 n (c0 - 1)) W := fun W => by simpa using hcut0 W
 have HF3 := Aside0.mk (show Kd.F Kd.string w2 (fun b => b < w1.heap.size) A1 wt.length wt from hcutF w2 (fun b => b < w1.heap.size) (w0 :: wt) (by have h := HN.out; rw [List.length_cons, ← h]) HCc.out (by have h := HF2.out; have h2 := HN.out; have e : (w0 :: wt).length = n + 1 := (by rw [List.length_cons, ← h2]); rw [e]; exact h)); have HC3 : Aside0 (wt.length ≤ c0 - 1) := ⟨by have h1 := HCc.out; have h2 := HN.out; omega⟩; have hc1 := HCc.out; clear hcut0 hcutF
 go_wp2_with (first | fail)
 have hlw2 : line_words.f kd = some 6 := by unfold line_words.f; rw [HWD.out]
 have HW2 := Aside0.mk hlw2; clear hlw2
 have BRa := bA BR2.out (.cells #[.int .i64 kd, .slice none 0 0, .int .u32 0, .int .i64 0, .string ⟨#[]⟩, .int .u64 0, .int .u64 0, .bool false] 37); have HBa := eA HB2.out (.cells #[.int .i64 kd, .slice none 0 0, .int .u32 0, .int .i64 0, .string ⟨#[]⟩, .int .u64 0, .int .u64 0, .bool false] 37); have HFa := Kd.F_alloc HF3.out (.cells #[.int .i64 kd, .slice none 0 0, .int .u32 0, .int .i64 0, .string ⟨#[]⟩, .int .u64 0, .int .u64 0, .bool false] 37); have BCa := blk_new w2 (.cells #[.int .i64 kd, .slice none 0 0, .int .u32 0, .int .i64 0, .string ⟨#[]⟩, .int .u64 0, .int .u64 0, .bool false] 37)
 have hlta : w.heap.size ≠ w2.heap.size := by omega
 have hle : w1.heap.size ≤ w2.heap.size := hle2; have hltc : w.heap.size < w2.heap.size := hlt2
 generalize hcb : w2.heap.size = cb at BCa hlta hle hltc ⊢; generalize (w2.alloc (.cells #[.int .i64 kd, .slice none 0 0, .int .u32 0, .int .i64 0, .string ⟨#[]⟩, .int .u64 0, .int .u64 0, .bool false] 37)) = W3 at BRa HBa HFa BCa ⊢
 with_reducible refine (line_words.calls kd 6 _ HW2.out).mono ?_
 rintro e_ w3 ⟨rfl, ⟨nd, rfl⟩⟩
 have BR3 := Aside0.mk (bN BRa nd); have HB3 := Aside0.mk (eN HBa nd); have HF3' := Aside0.mk (Kd.F_drewN HFa nd); have BC3 := Aside0.mk (bN BCa nd)
 clear BRa HBa HFa BCa BR2 HB2 HF2 HF3 HW2 hlt2; generalize (W3.drewN nd) = w3 at BR3 HB3 HF3' BC3 ⊢; have hcl3 : cb < w3.heap.size := blk_lt BC3.out; have hrl3 : w.heap.size < w3.heap.size := blk_lt BR3.out
 obtain ⟨hcy, hfy⟩ := d11 BR3
 go_wp2_with (first | fail)
 have N5 : Aside0 (w.heap.size ≤ w.heap.size) := ⟨Nat.le_refl _⟩; refine bodyPost_ret (results_cell_row rfl _ _ w.heap.size 57 #[.int .i64 3, .int .i64 0, .slice none 0 0, .int .u32 0, .int .i64 0, .string ⟨#[]⟩, .int .u64 0, .int .u64 0, .bool false, .int .i64 0, .int .i64 0] (0, 0) _ rfl (bV BR3.out) Tryd.underlying57 rfl (by kernel_rfl)) rfl ?_
 exact ParsedPost.zp (bH HB3.out)
set_option maxHeartbeats 2000000 in
set_option maxRecDepth 100000 in
theorem line_Parse.no5b (k : Nat) (s w0 : ByteArray) (wt : List ByteArray) (kd : Int) (w : World) (hL : LdS w) (hs : ¬ 160 < s.size) (hw : line_Words.f s = some (w0 :: wt)) (hk : verb_Kind.f w0 = some kd) (hk0 : ¬ kd = 0) (hkd : ¬ kd ≤ 4) (hwd : line_words.v kd = 6) (hln : wt.length = 6) (hlw : ((wt.getD 5 ByteArray.empty).toList == [110, 111, 114, 101, 112, 108, 121]) = false) :
  Calls Tryd.prog 22 #[.string s] w (ParsedPost w (zP 3)) := by
 have hk0 : (kd == 0) = false := beq_eq_false_iff_ne.2 hk0; have hk4 : decide (kd ≤ 4) = false := decide_eq_false hkd; have HWD := Aside0.mk hwd; clear hkd hwd
 have HLN := Aside0.mk hln; clear hln
 have HLW := Aside0.mk hlw; clear hlw
 have h160 : decide (160 < s.size) = false := decide_eq_false (by omega); have h161 : decide ((160 : Int) < (s.size : Int)) = false := decide_eq_false (by omega); clear hs; obtain ⟨ws, hws⟩ : ∃ ws : List ByteArray, ws = w0 :: wt := ⟨_, rfl⟩; rw [← hws] at hw
 have HK := Aside0.mk hk; clear hk
 have HW := Aside0.mk hw; clear hw
 go_enter Tryd.func22, Tryd.ntmps22
 go_wp2_with (first | fail)
 have BR0 := blk_new w (.cells #[.int .i64 0, .int .i64 0, .slice none 0 0, .int .u32 0, .int .i64 0, .string ⟨#[]⟩, .int .u64 0, .int .u64 0, .bool false, .int .i64 0, .int .i64 0] 57); have HB0 := eA (Below.refl w.heap.size w) (.cells #[.int .i64 0, .int .i64 0, .slice none 0 0, .int .u32 0, .int .i64 0, .string ⟨#[]⟩, .int .u64 0, .int .u64 0, .bool false, .int .i64 0, .int .i64 0] 57)
 have hs0 : (w.alloc (.cells #[.int .i64 0, .int .i64 0, .slice none 0 0, .int .u32 0, .int .i64 0, .string ⟨#[]⟩, .int .u64 0, .int .u64 0, .bool false, .int .i64 0, .int .i64 0] 57)).heap.size = w.heap.size + 1 := by simp
 generalize (w.alloc (.cells #[.int .i64 0, .int .i64 0, .slice none 0 0, .int .u32 0, .int .i64 0, .string ⟨#[]⟩, .int .u64 0, .int .u64 0, .bool false, .int .i64 0, .int .i64 0] 57)) = W0 at BR0 HB0 hs0 ⊢
 with_reducible refine (line_Words.calls s ws _ HW.out).mono ?_
 rintro e_ w1 ⟨v0, rfl, hR, hB⟩
 obtain ⟨A0, c0, rfl, hc0, hC⟩ := Kd.R_reads hR; have BR := Aside0.mk (blk_below BR0 hB); have HB := Aside0.mk (below_step HB0 hB)
 have hlt : w.heap.size < w1.heap.size := blk_lt BR.out
 have HC := Aside0.mk hC; have HCc := Aside0.mk hc0; have HMX := Aside0.mk (Kd.F_max (Kd.C_F Kd.heap_string hC))
 clear BR0 HB0 hs0 hR hB hC hc0; obtain ⟨n, hn⟩ : ∃ n, n = wt.length := ⟨_, rfl⟩; have hl : ws.length = n + 1 := by rw [hws, hn]; rfl
 rw [hl] at HC HCc HMX ⊢; have HCW := Aside0.mk (show Kd.C Kd.string w1 A0 (n + 1) (w0 :: wt) by rw [← hws]; exact HC.out); have HN := Aside0.mk hn; clear HC hws hl hn HW
 obtain ⟨ad, rfl, hcell⟩ := Kd.at_string HCW.out (0 : Int) (by omega) (by omega); have hx0 : w1.cell? ad = some (.string w0) := by simpa [Addr.add, rdOf] using hcell
 clear hcell; have hn0 : 0 < n + 1 := by omega
 go_wp2_with (first | fail)
 with_reducible refine (verb_Kind.calls w0 kd _ HK.out).mono ?_
 rintro e_ w2 ⟨rfl, hB⟩
 have BR2 := Aside0.mk (blk_below BR.out hB); have HB2 := Aside0.mk (below_step HB.out hB); have HF2 := Aside0.mk (Kd.F_below (Kd.C_F Kd.heap_string HCW.out) hB); have hlt2 : w.heap.size < w2.heap.size := blk_lt BR2.out; have hle2 : w1.heap.size ≤ w2.heap.size := hB.size
 clear hB BR HB hlt HCW hx0 hn0; obtain rfl : n = 6 := by have h1 := HN.out; have h2 := HLN.out; omega
 obtain ⟨A1, hcut0, hcutF⟩ := cutF (some ad) (7) c0 1 (by omega); have hcut : ∀ W : World, (Instr.slice 34 (.slice (some ad) (7) c0) (some (.int .i64 1)) none none).run Tryd.prog W = .ok (.slice A1 6 (c0 - 1)) W := fun W => by simpa using hcut0 W
 have HF3 := Aside0.mk (show Kd.F Kd.string w2 (fun b => b < w1.heap.size) A1 wt.length wt from hcutF w2 (fun b => b < w1.heap.size) (w0 :: wt) (by have h := HN.out; rw [List.length_cons, ← h]) HCc.out (by have h := HF2.out; have h2 := HN.out; have e : (w0 :: wt).length = 7 := (by rw [List.length_cons, ← h2]); rw [e]; exact h)); have HC3 : Aside0 (wt.length ≤ c0 - 1) := ⟨by have h1 := HCc.out; have h2 := HN.out; omega⟩; have hc1 := HCc.out; clear hcut0 hcutF
 go_wp2_with (first | fail)
 have hlw2 : line_words.f kd = some 6 := by unfold line_words.f; rw [HWD.out]
 have HW2 := Aside0.mk hlw2; clear hlw2
 have BRa := bA BR2.out (.cells #[.int .i64 kd, .slice none 0 0, .int .u32 0, .int .i64 0, .string ⟨#[]⟩, .int .u64 0, .int .u64 0, .bool false] 37); have HBa := eA HB2.out (.cells #[.int .i64 kd, .slice none 0 0, .int .u32 0, .int .i64 0, .string ⟨#[]⟩, .int .u64 0, .int .u64 0, .bool false] 37); have HFa := Kd.F_alloc HF3.out (.cells #[.int .i64 kd, .slice none 0 0, .int .u32 0, .int .i64 0, .string ⟨#[]⟩, .int .u64 0, .int .u64 0, .bool false] 37); have BCa := blk_new w2 (.cells #[.int .i64 kd, .slice none 0 0, .int .u32 0, .int .i64 0, .string ⟨#[]⟩, .int .u64 0, .int .u64 0, .bool false] 37)
 have hlta : w.heap.size ≠ w2.heap.size := by omega
 have hle : w1.heap.size ≤ w2.heap.size := hle2; have hltc : w.heap.size < w2.heap.size := hlt2
 generalize hcb : w2.heap.size = cb at BCa hlta hle hltc ⊢; generalize (w2.alloc (.cells #[.int .i64 kd, .slice none 0 0, .int .u32 0, .int .i64 0, .string ⟨#[]⟩, .int .u64 0, .int .u64 0, .bool false] 37)) = W3 at BRa HBa HFa BCa ⊢
 with_reducible refine (line_words.calls kd 6 _ HW2.out).mono ?_
 rintro e_ w3 ⟨rfl, ⟨nd, rfl⟩⟩
 have BR3 := Aside0.mk (bN BRa nd); have HB3 := Aside0.mk (eN HBa nd); have HF3' := Aside0.mk (Kd.F_drewN HFa nd); have BC3 := Aside0.mk (bN BCa nd)
 clear BRa HBa HFa BCa BR2 HB2 HF2 HF3 HW2 hlt2; generalize (W3.drewN nd) = w3 at BR3 HB3 HF3' BC3 ⊢; have hcl3 : cb < w3.heap.size := blk_lt BC3.out; have hrl3 : w.heap.size < w3.heap.size := blk_lt BR3.out
 obtain ⟨ad1, rfl, hcl⟩ := Kd.at_string (Kd.F_now HF3'.out) (5 : Int) (by omega) (by rw [HLN.out]; omega); have hxl : w3.cell? ⟨ad1.block, ad1.off + 5, none⟩ = some (.string (wt.getD 5 ByteArray.empty)) := by simpa [Addr.add, rdOf] using hcl
 clear hcl; have hlx : ((wt.getD 5 ByteArray.empty).toList == [110, 111, 114, 101, 112, 108, 121]) = false := HLW.out; have hlx2 : ((wt.getD 5 ByteArray.empty).toList == (⟨#[110, 111, 114, 101, 112, 108, 121]⟩ : ByteArray).toList) = false := by rw [show (⟨#[110, 111, 114, 101, 112, 108, 121]⟩ : ByteArray).toList = [110, 111, 114, 101, 112, 108, 121] from by rw [ByteArray.toList_eq]]; exact HLW.out
 generalize (wt.getD 5 ByteArray.empty) = lw at hxl hlx hlx2; obtain ⟨hcy, hfy⟩ := d11 BR3
 go_wp2_with (first | fail)
 have N5 : Aside0 (w.heap.size ≤ w.heap.size) := ⟨Nat.le_refl _⟩; refine bodyPost_ret (results_cell_row rfl _ _ w.heap.size 57 #[.int .i64 3, .int .i64 0, .slice none 0 0, .int .u32 0, .int .i64 0, .string ⟨#[]⟩, .int .u64 0, .int .u64 0, .bool false, .int .i64 0, .int .i64 0] (0, 0) _ rfl (bV BR3.out) Tryd.underlying57 rfl (by kernel_rfl)) rfl ?_
 exact ParsedPost.zp (bH HB3.out)
set_option maxHeartbeats 2000000 in
set_option maxRecDepth 100000 in
theorem line_Parse.st4q (k : Nat) (s w0 : ByteArray) (wt : List ByteArray) (kd : Int) (r1 r2 : Int) (r3 : List ByteArray) (r4 r5 : Int) (r6 : ByteArray) (r7 r8 : Int) (r9 : Bool) (r10 r11 : Int) (w : World) (hL : LdS w) (hs : ¬ 160 < s.size) (hw : line_Words.f s = some (w0 :: wt)) (hk : verb_Kind.f w0 = some kd) (hk0 : ¬ kd = 0) (hkd : ¬ kd ≤ 4) (hwd : line_words.v kd = 5) (hln : wt.length = 5) (HLW : wt.getD 4 ByteArray.empty = (⟨#[110, 111, 114, 101, 112, 108, 121]⟩ : ByteArray)) (hst : verb_Stores.f kd = some true) (hr : line_stores.f k kd true (wt.take 4) = some (r1, r2, r3, r4, r5, r6, r7, r8, r9, r10, r11)) :
  Calls Tryd.prog 22 #[.string s] w (ParsedPost w (r1, r2, r3, r4, r5, r6, r7, r8, r9, r10, r11)) := by
 have HL := Aside0.mk hL; have HR_ := Aside0.mk hr; have HST := Aside0.mk hst; clear hL hr hst
 have hk0 : (kd == 0) = false := beq_eq_false_iff_ne.2 hk0; have hk4 : decide (kd ≤ 4) = false := decide_eq_false hkd; have HWD := Aside0.mk hwd; clear hkd hwd
 have HLN := Aside0.mk hln; clear hln
 have h160 : decide (160 < s.size) = false := decide_eq_false (by omega); have h161 : decide ((160 : Int) < (s.size : Int)) = false := decide_eq_false (by omega); clear hs; obtain ⟨ws, hws⟩ : ∃ ws : List ByteArray, ws = w0 :: wt := ⟨_, rfl⟩; rw [← hws] at hw
 have HK := Aside0.mk hk; clear hk
 have HW := Aside0.mk hw; clear hw
 go_enter Tryd.func22, Tryd.ntmps22
 go_wp2_with (first | fail)
 have BR0 := blk_new w (.cells #[.int .i64 0, .int .i64 0, .slice none 0 0, .int .u32 0, .int .i64 0, .string ⟨#[]⟩, .int .u64 0, .int .u64 0, .bool false, .int .i64 0, .int .i64 0] 57); have HB0 := eA (Below.refl w.heap.size w) (.cells #[.int .i64 0, .int .i64 0, .slice none 0 0, .int .u32 0, .int .i64 0, .string ⟨#[]⟩, .int .u64 0, .int .u64 0, .bool false, .int .i64 0, .int .i64 0] 57)
 have hs0 : (w.alloc (.cells #[.int .i64 0, .int .i64 0, .slice none 0 0, .int .u32 0, .int .i64 0, .string ⟨#[]⟩, .int .u64 0, .int .u64 0, .bool false, .int .i64 0, .int .i64 0] 57)).heap.size = w.heap.size + 1 := by simp
 generalize (w.alloc (.cells #[.int .i64 0, .int .i64 0, .slice none 0 0, .int .u32 0, .int .i64 0, .string ⟨#[]⟩, .int .u64 0, .int .u64 0, .bool false, .int .i64 0, .int .i64 0] 57)) = W0 at BR0 HB0 hs0 ⊢
 with_reducible refine (line_Words.calls s ws _ HW.out).mono ?_
 rintro e_ w1 ⟨v0, rfl, hR, hB⟩
 obtain ⟨A0, c0, rfl, hc0, hC⟩ := Kd.R_reads hR; have BR := Aside0.mk (blk_below BR0 hB); have HB := Aside0.mk (below_step HB0 hB)
 have hlt : w.heap.size < w1.heap.size := blk_lt BR.out
 have HC := Aside0.mk hC; have HCc := Aside0.mk hc0; have HMX := Aside0.mk (Kd.F_max (Kd.C_F Kd.heap_string hC))
 clear BR0 HB0 hs0 hR hB hC hc0; obtain ⟨n, hn⟩ : ∃ n, n = wt.length := ⟨_, rfl⟩; have hl : ws.length = n + 1 := by rw [hws, hn]; rfl
 rw [hl] at HC HCc HMX ⊢; have HCW := Aside0.mk (show Kd.C Kd.string w1 A0 (n + 1) (w0 :: wt) by rw [← hws]; exact HC.out); have HN := Aside0.mk hn; clear HC hws hl hn HW
 obtain ⟨ad, rfl, hcell⟩ := Kd.at_string HCW.out (0 : Int) (by omega) (by omega); have hx0 : w1.cell? ad = some (.string w0) := by simpa [Addr.add, rdOf] using hcell
 clear hcell; have hn0 : 0 < n + 1 := by omega
 go_wp2_with (first | fail)
 with_reducible refine (verb_Kind.calls w0 kd _ HK.out).mono ?_
 rintro e_ w2 ⟨rfl, hB⟩
 have BR2 := Aside0.mk (blk_below BR.out hB); have HB2 := Aside0.mk (below_step HB.out hB); have HF2 := Aside0.mk (Kd.F_below (Kd.C_F Kd.heap_string HCW.out) hB); have hlt2 : w.heap.size < w2.heap.size := blk_lt BR2.out; have hle2 : w1.heap.size ≤ w2.heap.size := hB.size
 clear hB BR HB hlt HCW hx0 hn0; obtain rfl : n = 5 := by have h1 := HN.out; have h2 := HLN.out; omega
 obtain ⟨A1, hcut0, hcutF⟩ := cutF (some ad) (6) c0 1 (by omega); have hcut : ∀ W : World, (Instr.slice 34 (.slice (some ad) (6) c0) (some (.int .i64 1)) none none).run Tryd.prog W = .ok (.slice A1 5 (c0 - 1)) W := fun W => by simpa using hcut0 W
 have HF3 := Aside0.mk (show Kd.F Kd.string w2 (fun b => b < w1.heap.size) A1 wt.length wt from hcutF w2 (fun b => b < w1.heap.size) (w0 :: wt) (by have h := HN.out; rw [List.length_cons, ← h]) HCc.out (by have h := HF2.out; have h2 := HN.out; have e : (w0 :: wt).length = 6 := (by rw [List.length_cons, ← h2]); rw [e]; exact h)); have HC3 : Aside0 (wt.length ≤ c0 - 1) := ⟨by have h1 := HCc.out; have h2 := HN.out; omega⟩; have hc1 := HCc.out; clear hcut0 hcutF
 go_wp2_with (first | fail)
 have hlw2 : line_words.f kd = some 5 := by unfold line_words.f; rw [HWD.out]
 have HW2 := Aside0.mk hlw2; clear hlw2
 have BRa := bA BR2.out (.cells #[.int .i64 kd, .slice none 0 0, .int .u32 0, .int .i64 0, .string ⟨#[]⟩, .int .u64 0, .int .u64 0, .bool false] 37); have HBa := eA HB2.out (.cells #[.int .i64 kd, .slice none 0 0, .int .u32 0, .int .i64 0, .string ⟨#[]⟩, .int .u64 0, .int .u64 0, .bool false] 37); have HFa := Kd.F_alloc HF3.out (.cells #[.int .i64 kd, .slice none 0 0, .int .u32 0, .int .i64 0, .string ⟨#[]⟩, .int .u64 0, .int .u64 0, .bool false] 37); have BCa := blk_new w2 (.cells #[.int .i64 kd, .slice none 0 0, .int .u32 0, .int .i64 0, .string ⟨#[]⟩, .int .u64 0, .int .u64 0, .bool false] 37)
 have hlta : w.heap.size ≠ w2.heap.size := by omega
 have hle : w1.heap.size ≤ w2.heap.size := hle2; have hltc : w.heap.size < w2.heap.size := hlt2
 generalize hcb : w2.heap.size = cb at BCa hlta hle hltc ⊢; generalize (w2.alloc (.cells #[.int .i64 kd, .slice none 0 0, .int .u32 0, .int .i64 0, .string ⟨#[]⟩, .int .u64 0, .int .u64 0, .bool false] 37)) = W3 at BRa HBa HFa BCa ⊢
 with_reducible refine (line_words.calls kd 5 _ HW2.out).mono ?_
 rintro e_ w3 ⟨rfl, ⟨nd, rfl⟩⟩
 have BR3 := Aside0.mk (bN BRa nd); have HB3 := Aside0.mk (eN HBa nd); have HF3' := Aside0.mk (Kd.F_drewN HFa nd); have BC3 := Aside0.mk (bN BCa nd)
 clear BRa HBa HFa BCa BR2 HB2 HF2 HF3 HW2 hlt2; generalize (W3.drewN nd) = w3 at BR3 HB3 HF3' BC3 ⊢; have hcl3 : cb < w3.heap.size := blk_lt BC3.out; have hrl3 : w.heap.size < w3.heap.size := blk_lt BR3.out
 obtain ⟨ad1, rfl, hcl⟩ := Kd.at_string (Kd.F_now HF3'.out) (4 : Int) (by omega) (by rw [HLN.out]; omega); have hxl : w3.cell? ⟨ad1.block, ad1.off + 4, none⟩ = some (.string (wt.getD 4 ByteArray.empty)) := by simpa [Addr.add, rdOf] using hcl
 clear hcl; rw [HLW] at hxl; have hf7 : w3.frozen? ⟨cb, 7, none⟩ = false := blk_frozen BC3.out 7; have hc7 : w3.cell? ⟨cb, 7, none⟩ = some (.bool false) := (blk_cell BC3.out 7).trans rfl
 have htk : ∀ W : World, (Instr.slice 34 (.slice (some ad1) 5 (c0 - 1)) none (some (.int .i64 4)) none).run Tryd.prog W = .ok (.slice (some ad1) 4 (c0 - 1)) W := fun W => by simpa using takeF (some ad1) 5 (c0 - 1) 4 (by omega) (by omega) W
 go_wp2_with (first | fail)
 have BR4 := Aside0.mk (blk_far (p := ⟨cb, 7, none⟩) BR3.out hlta (.bool true)); have BC4 := Aside0.mk (blk_set BC3.out 7 (.bool true)); have HB4 := Aside0.mk (eS (g := cb) (j := 7) (v := .bool true) HB3.out (by omega)); have HF4 := Aside0.mk (Kd.F_far (p := ⟨cb, 7, none⟩) (show Kd.F Kd.string w3 (fun b => b < w1.heap.size) (some ad1) (wt.take 4).length (wt.take 4) from Kd.F_take HF3'.out (by rw [HLN.out]; omega)) (fun b hb => by have h : b < w1.heap.size := hb; show b ≠ cb; omega) (.bool true))
 have HLL : Aside0 ((wt.take 4).length = 4) := ⟨by rw [List.length_take, HLN.out]; rfl⟩; rw [show ∀ (p0 p1 p2 p3 p4 p5 p6 p7 u : Value), (#[p0, p1, p2, p3, p4, p5, p6, p7] : Array Value).setIfInBounds 7 u = #[p0, p1, p2, p3, p4, p5, p6, u] from fun _ _ _ _ _ _ _ _ _ => rfl] at BC4; clear BR3 BC3 HB3 HF3' hxl hf7 hc7 htk hcl3 hrl3; generalize (w3.setCell ⟨cb, 7, none⟩ (.bool true)) = w4 at BR4 BC4 HB4 HF4 ⊢; generalize hls : wt.take 4 = ls at HF4 HLL; have HLS := Aside0.mk hls; clear hls
 obtain ⟨A4, hA4⟩ : ∃ A4, A4 = some ad1 := ⟨_, rfl⟩; rw [← hA4] at HF4 ⊢; clear hA4
 have HCX : Aside0 (4 ≤ c0 - 1) := ⟨by omega⟩; clear hc1
 with_reducible refine (verb_Stores.calls kd true _ HST.out).mono ?_
 rintro e_ w5 ⟨rfl, ⟨nd5, rfl⟩⟩
 have BRp := bN BR4.out nd5; have HBp := eN HB4.out nd5; have BC5 := Aside0.mk (bN BC4.out nd5); have HF5 := Aside0.mk (Kd.F_drewN HF4.out nd5)
 clear BR4 HB4 BC4 HF4; generalize (w4.drewN nd5) = w5 at BRp HBp BC5 HF5 ⊢; obtain ⟨hcz, hfz⟩ := d8 BC5; have hlt5 : w.heap.size < w5.heap.size := blk_lt BRp
 go_wp2_with (first | fail)
 obtain ⟨N0, hN0⟩ : ∃ N0, N0 = 4 := ⟨_, rfl⟩; have hL5 : ls.length = 4 := HLL.out; rw [← hL5]; refine (line_stores.calls k kd true A4 (c0 - 1) ls (r1, r2, r3, r4, r5, r6, r7, r8, r9, r10, r11) _ (Kd.F_now HF5.out) (by rw [hL5]; exact HCX.out) (HL.out.on HBp) (by rw [← HLS.out]; exact HR_.out)).mono ?_
 clear hcz hfz hL5
 rintro e_ w6 ⟨v2, rfl, hR, hB⟩
 obtain ⟨Ak, ck, rfl⟩ := Kd.R_slice hR; have BR6 := Aside0.mk (blk_below BRp hB); have HB6 := Aside0.mk (below_step HBp hB); have HR6 := Aside0.mk hR; clear hR hB
 dsimp only
 obtain ⟨hcy, hfy⟩ := d11 BR6; go_wp2; have N5 : Aside0 (w.heap.size ≤ w.heap.size) := ⟨Nat.le_refl _⟩; refine bodyPost_ret (results_cell_row rfl _ _ w.heap.size 57 #[.int .i64 r1, .int .i64 r2, .slice Ak r3.length ck, .int .u32 r4, .int .i64 r5, .string r6, .int .u64 r7, .int .u64 r8, .bool r9, .int .i64 r10, .int .i64 r11] (0, 0) _ rfl (bV BR6.out) Tryd.underlying57 rfl (by kernel_rfl)) rfl ?_
 refine ⟨_, rfl, ?_, bH HB6.out⟩
 refine Kd.R_mono (ok := fun b => b ≠ w.heap.size) ?_ (fun _ _ => trivial)
 (iterate 11 (refine Kd.R_far (p := ⟨w.heap.size, _, none⟩) ?_ (fun _ hk => hk) _))
 exact Kd.R_lower (Kd.R_mono (Kd.R_bound HR6.out) (fun b hb => by have h1 : w5.heap.size ≤ b := hb.2.1; show b ≠ w.heap.size; omega)) (Nat.le_of_lt hlt5)
set_option maxHeartbeats 2000000 in
set_option maxRecDepth 100000 in
theorem line_Parse.st4e (k : Nat) (s w0 : ByteArray) (wt : List ByteArray) (kd : Int) (r1 r2 : Int) (r3 : List ByteArray) (r4 r5 : Int) (r6 : ByteArray) (r7 r8 : Int) (r9 : Bool) (r10 r11 : Int) (w : World) (hL : LdS w) (hs : ¬ 160 < s.size) (hw : line_Words.f s = some (w0 :: wt)) (hk : verb_Kind.f w0 = some kd) (hk0 : ¬ kd = 0) (hkd : ¬ kd ≤ 4) (hwd : line_words.v kd = 5) (hln : wt.length = 4) (hst : verb_Stores.f kd = some true) (hr : line_stores.f k kd false (wt) = some (r1, r2, r3, r4, r5, r6, r7, r8, r9, r10, r11)) :
  Calls Tryd.prog 22 #[.string s] w (ParsedPost w (r1, r2, r3, r4, r5, r6, r7, r8, r9, r10, r11)) := by
 have HL := Aside0.mk hL; have HR_ := Aside0.mk hr; have HST := Aside0.mk hst; clear hL hr hst
 have hk0 : (kd == 0) = false := beq_eq_false_iff_ne.2 hk0; have hk4 : decide (kd ≤ 4) = false := decide_eq_false hkd; have HWD := Aside0.mk hwd; clear hkd hwd
 have h160 : decide (160 < s.size) = false := decide_eq_false (by omega); have h161 : decide ((160 : Int) < (s.size : Int)) = false := decide_eq_false (by omega); clear hs; obtain ⟨ws, hws⟩ : ∃ ws : List ByteArray, ws = w0 :: wt := ⟨_, rfl⟩; rw [← hws] at hw
 have HK := Aside0.mk hk; clear hk
 have HW := Aside0.mk hw; clear hw
 go_enter Tryd.func22, Tryd.ntmps22
 go_wp2_with (first | fail)
 have BR0 := blk_new w (.cells #[.int .i64 0, .int .i64 0, .slice none 0 0, .int .u32 0, .int .i64 0, .string ⟨#[]⟩, .int .u64 0, .int .u64 0, .bool false, .int .i64 0, .int .i64 0] 57); have HB0 := eA (Below.refl w.heap.size w) (.cells #[.int .i64 0, .int .i64 0, .slice none 0 0, .int .u32 0, .int .i64 0, .string ⟨#[]⟩, .int .u64 0, .int .u64 0, .bool false, .int .i64 0, .int .i64 0] 57)
 have hs0 : (w.alloc (.cells #[.int .i64 0, .int .i64 0, .slice none 0 0, .int .u32 0, .int .i64 0, .string ⟨#[]⟩, .int .u64 0, .int .u64 0, .bool false, .int .i64 0, .int .i64 0] 57)).heap.size = w.heap.size + 1 := by simp
 generalize (w.alloc (.cells #[.int .i64 0, .int .i64 0, .slice none 0 0, .int .u32 0, .int .i64 0, .string ⟨#[]⟩, .int .u64 0, .int .u64 0, .bool false, .int .i64 0, .int .i64 0] 57)) = W0 at BR0 HB0 hs0 ⊢
 with_reducible refine (line_Words.calls s ws _ HW.out).mono ?_
 rintro e_ w1 ⟨v0, rfl, hR, hB⟩
 obtain ⟨A0, c0, rfl, hc0, hC⟩ := Kd.R_reads hR; have BR := Aside0.mk (blk_below BR0 hB); have HB := Aside0.mk (below_step HB0 hB)
 have hlt : w.heap.size < w1.heap.size := blk_lt BR.out
 have HC := Aside0.mk hC; have HCc := Aside0.mk hc0; have HMX := Aside0.mk (Kd.F_max (Kd.C_F Kd.heap_string hC))
 clear BR0 HB0 hs0 hR hB hC hc0; obtain ⟨n, hn⟩ : ∃ n, n = wt.length := ⟨_, rfl⟩; have hl : ws.length = n + 1 := by rw [hws, hn]; rfl
 rw [hl] at HC HCc HMX ⊢; have HCW := Aside0.mk (show Kd.C Kd.string w1 A0 (n + 1) (w0 :: wt) by rw [← hws]; exact HC.out); have HN := Aside0.mk hn; clear HC hws hl hn HW
 obtain ⟨ad, rfl, hcell⟩ := Kd.at_string HCW.out (0 : Int) (by omega) (by omega); have hx0 : w1.cell? ad = some (.string w0) := by simpa [Addr.add, rdOf] using hcell
 clear hcell; have hn0 : 0 < n + 1 := by omega
 go_wp2_with (first | fail)
 with_reducible refine (verb_Kind.calls w0 kd _ HK.out).mono ?_
 rintro e_ w2 ⟨rfl, hB⟩
 have BR2 := Aside0.mk (blk_below BR.out hB); have HB2 := Aside0.mk (below_step HB.out hB); have HF2 := Aside0.mk (Kd.F_below (Kd.C_F Kd.heap_string HCW.out) hB); have hlt2 : w.heap.size < w2.heap.size := blk_lt BR2.out; have hle2 : w1.heap.size ≤ w2.heap.size := hB.size
 clear hB BR HB hlt HCW hx0 hn0; obtain rfl : n = 4 := by have h1 := HN.out; omega
 have HLE := Aside0.mk hln; clear hln
 obtain ⟨A1, hcut0, hcutF⟩ := cutF (some ad) (5) c0 1 (by omega); have hcut : ∀ W : World, (Instr.slice 34 (.slice (some ad) (5) c0) (some (.int .i64 1)) none none).run Tryd.prog W = .ok (.slice A1 4 (c0 - 1)) W := fun W => by simpa using hcut0 W
 have HF3 := Aside0.mk (show Kd.F Kd.string w2 (fun b => b < w1.heap.size) A1 wt.length wt from hcutF w2 (fun b => b < w1.heap.size) (w0 :: wt) (by have h := HN.out; rw [List.length_cons, ← h]) HCc.out (by have h := HF2.out; have h2 := HN.out; have e : (w0 :: wt).length = 5 := (by rw [List.length_cons, ← h2]); rw [e]; exact h)); have HC3 : Aside0 (wt.length ≤ c0 - 1) := ⟨by have h1 := HCc.out; have h2 := HN.out; omega⟩; have hc1 := HCc.out; clear hcut0 hcutF
 go_wp2_with (first | fail)
 have hlw2 : line_words.f kd = some 5 := by unfold line_words.f; rw [HWD.out]
 have HW2 := Aside0.mk hlw2; clear hlw2
 have BRa := bA BR2.out (.cells #[.int .i64 kd, .slice none 0 0, .int .u32 0, .int .i64 0, .string ⟨#[]⟩, .int .u64 0, .int .u64 0, .bool false] 37); have HBa := eA HB2.out (.cells #[.int .i64 kd, .slice none 0 0, .int .u32 0, .int .i64 0, .string ⟨#[]⟩, .int .u64 0, .int .u64 0, .bool false] 37); have HFa := Kd.F_alloc HF3.out (.cells #[.int .i64 kd, .slice none 0 0, .int .u32 0, .int .i64 0, .string ⟨#[]⟩, .int .u64 0, .int .u64 0, .bool false] 37); have BCa := blk_new w2 (.cells #[.int .i64 kd, .slice none 0 0, .int .u32 0, .int .i64 0, .string ⟨#[]⟩, .int .u64 0, .int .u64 0, .bool false] 37)
 have hlta : w.heap.size ≠ w2.heap.size := by omega
 have hle : w1.heap.size ≤ w2.heap.size := hle2; have hltc : w.heap.size < w2.heap.size := hlt2
 generalize hcb : w2.heap.size = cb at BCa hlta hle hltc ⊢; generalize (w2.alloc (.cells #[.int .i64 kd, .slice none 0 0, .int .u32 0, .int .i64 0, .string ⟨#[]⟩, .int .u64 0, .int .u64 0, .bool false] 37)) = W3 at BRa HBa HFa BCa ⊢
 with_reducible refine (line_words.calls kd 5 _ HW2.out).mono ?_
 rintro e_ w3 ⟨rfl, ⟨nd, rfl⟩⟩
 have BR3 := Aside0.mk (bN BRa nd); have HB3 := Aside0.mk (eN HBa nd); have HF3' := Aside0.mk (Kd.F_drewN HFa nd); have BC3 := Aside0.mk (bN BCa nd)
 clear BRa HBa HFa BCa BR2 HB2 HF2 HF3 HW2 hlt2; generalize (W3.drewN nd) = w3 at BR3 HB3 HF3' BC3 ⊢; have hcl3 : cb < w3.heap.size := blk_lt BC3.out; have hrl3 : w.heap.size < w3.heap.size := blk_lt BR3.out
 go_wp2_with (first | fail)
 have BR4 := BR3; have BC4 := BC3; have HB4 := HB3; have HF4 := HF3'; have HLL := HLE; clear BR3 BC3 HB3 HF3' hcl3 hrl3
 generalize w3 = w4 at BR4 BC4 HB4 HF4 ⊢; obtain ⟨A4, hA4⟩ : ∃ A4, A4 = A1 := ⟨_, rfl⟩; rw [← hA4] at HF4 ⊢; clear hA4 hcut
 generalize hls : wt = ls at HF4 HLL; have HLS := Aside0.mk hls; clear hls
 have HCX : Aside0 (4 ≤ c0 - 1) := ⟨by omega⟩; clear hc1
 with_reducible refine (verb_Stores.calls kd true _ HST.out).mono ?_
 rintro e_ w5 ⟨rfl, ⟨nd5, rfl⟩⟩
 have BRp := bN BR4.out nd5; have HBp := eN HB4.out nd5; have BC5 := Aside0.mk (bN BC4.out nd5); have HF5 := Aside0.mk (Kd.F_drewN HF4.out nd5)
 clear BR4 HB4 BC4 HF4; generalize (w4.drewN nd5) = w5 at BRp HBp BC5 HF5 ⊢; obtain ⟨hcz, hfz⟩ := d8 BC5; have hlt5 : w.heap.size < w5.heap.size := blk_lt BRp
 go_wp2_with (first | fail)
 obtain ⟨N0, hN0⟩ : ∃ N0, N0 = 4 := ⟨_, rfl⟩; have hL5 : ls.length = 4 := HLL.out; rw [← hL5]; refine (line_stores.calls k kd false A4 (c0 - 1) ls (r1, r2, r3, r4, r5, r6, r7, r8, r9, r10, r11) _ (Kd.F_now HF5.out) (by rw [hL5]; exact HCX.out) (HL.out.on HBp) (by rw [← HLS.out]; exact HR_.out)).mono ?_
 clear hcz hfz hL5
 rintro e_ w6 ⟨v2, rfl, hR, hB⟩
 obtain ⟨Ak, ck, rfl⟩ := Kd.R_slice hR; have BR6 := Aside0.mk (blk_below BRp hB); have HB6 := Aside0.mk (below_step HBp hB); have HR6 := Aside0.mk hR; clear hR hB
 dsimp only
 obtain ⟨hcy, hfy⟩ := d11 BR6; go_wp2; have N5 : Aside0 (w.heap.size ≤ w.heap.size) := ⟨Nat.le_refl _⟩; refine bodyPost_ret (results_cell_row rfl _ _ w.heap.size 57 #[.int .i64 r1, .int .i64 r2, .slice Ak r3.length ck, .int .u32 r4, .int .i64 r5, .string r6, .int .u64 r7, .int .u64 r8, .bool r9, .int .i64 r10, .int .i64 r11] (0, 0) _ rfl (bV BR6.out) Tryd.underlying57 rfl (by kernel_rfl)) rfl ?_
 refine ⟨_, rfl, ?_, bH HB6.out⟩
 refine Kd.R_mono (ok := fun b => b ≠ w.heap.size) ?_ (fun _ _ => trivial)
 (iterate 11 (refine Kd.R_far (p := ⟨w.heap.size, _, none⟩) ?_ (fun _ hk => hk) _))
 exact Kd.R_lower (Kd.R_mono (Kd.R_bound HR6.out) (fun b hb => by have h1 : w5.heap.size ≤ b := hb.2.1; show b ≠ w.heap.size; omega)) (Nat.le_of_lt hlt5)
set_option maxHeartbeats 2000000 in
set_option maxRecDepth 100000 in
theorem line_Parse.st5q (k : Nat) (s w0 : ByteArray) (wt : List ByteArray) (kd : Int) (r1 r2 : Int) (r3 : List ByteArray) (r4 r5 : Int) (r6 : ByteArray) (r7 r8 : Int) (r9 : Bool) (r10 r11 : Int) (w : World) (hL : LdS w) (hs : ¬ 160 < s.size) (hw : line_Words.f s = some (w0 :: wt)) (hk : verb_Kind.f w0 = some kd) (hk0 : ¬ kd = 0) (hkd : ¬ kd ≤ 4) (hwd : line_words.v kd = 6) (hln : wt.length = 6) (HLW : wt.getD 5 ByteArray.empty = (⟨#[110, 111, 114, 101, 112, 108, 121]⟩ : ByteArray)) (hst : verb_Stores.f kd = some true) (hr : line_stores.f k kd true (wt.take 5) = some (r1, r2, r3, r4, r5, r6, r7, r8, r9, r10, r11)) :
  Calls Tryd.prog 22 #[.string s] w (ParsedPost w (r1, r2, r3, r4, r5, r6, r7, r8, r9, r10, r11)) := by
 have HL := Aside0.mk hL; have HR_ := Aside0.mk hr; have HST := Aside0.mk hst; clear hL hr hst
 have hk0 : (kd == 0) = false := beq_eq_false_iff_ne.2 hk0; have hk4 : decide (kd ≤ 4) = false := decide_eq_false hkd; have HWD := Aside0.mk hwd; clear hkd hwd
 have HLN := Aside0.mk hln; clear hln
 have h160 : decide (160 < s.size) = false := decide_eq_false (by omega); have h161 : decide ((160 : Int) < (s.size : Int)) = false := decide_eq_false (by omega); clear hs; obtain ⟨ws, hws⟩ : ∃ ws : List ByteArray, ws = w0 :: wt := ⟨_, rfl⟩; rw [← hws] at hw
 have HK := Aside0.mk hk; clear hk
 have HW := Aside0.mk hw; clear hw
 go_enter Tryd.func22, Tryd.ntmps22
 go_wp2_with (first | fail)
 have BR0 := blk_new w (.cells #[.int .i64 0, .int .i64 0, .slice none 0 0, .int .u32 0, .int .i64 0, .string ⟨#[]⟩, .int .u64 0, .int .u64 0, .bool false, .int .i64 0, .int .i64 0] 57); have HB0 := eA (Below.refl w.heap.size w) (.cells #[.int .i64 0, .int .i64 0, .slice none 0 0, .int .u32 0, .int .i64 0, .string ⟨#[]⟩, .int .u64 0, .int .u64 0, .bool false, .int .i64 0, .int .i64 0] 57)
 have hs0 : (w.alloc (.cells #[.int .i64 0, .int .i64 0, .slice none 0 0, .int .u32 0, .int .i64 0, .string ⟨#[]⟩, .int .u64 0, .int .u64 0, .bool false, .int .i64 0, .int .i64 0] 57)).heap.size = w.heap.size + 1 := by simp
 generalize (w.alloc (.cells #[.int .i64 0, .int .i64 0, .slice none 0 0, .int .u32 0, .int .i64 0, .string ⟨#[]⟩, .int .u64 0, .int .u64 0, .bool false, .int .i64 0, .int .i64 0] 57)) = W0 at BR0 HB0 hs0 ⊢
 with_reducible refine (line_Words.calls s ws _ HW.out).mono ?_
 rintro e_ w1 ⟨v0, rfl, hR, hB⟩
 obtain ⟨A0, c0, rfl, hc0, hC⟩ := Kd.R_reads hR; have BR := Aside0.mk (blk_below BR0 hB); have HB := Aside0.mk (below_step HB0 hB)
 have hlt : w.heap.size < w1.heap.size := blk_lt BR.out
 have HC := Aside0.mk hC; have HCc := Aside0.mk hc0; have HMX := Aside0.mk (Kd.F_max (Kd.C_F Kd.heap_string hC))
 clear BR0 HB0 hs0 hR hB hC hc0; obtain ⟨n, hn⟩ : ∃ n, n = wt.length := ⟨_, rfl⟩; have hl : ws.length = n + 1 := by rw [hws, hn]; rfl
 rw [hl] at HC HCc HMX ⊢; have HCW := Aside0.mk (show Kd.C Kd.string w1 A0 (n + 1) (w0 :: wt) by rw [← hws]; exact HC.out); have HN := Aside0.mk hn; clear HC hws hl hn HW
 obtain ⟨ad, rfl, hcell⟩ := Kd.at_string HCW.out (0 : Int) (by omega) (by omega); have hx0 : w1.cell? ad = some (.string w0) := by simpa [Addr.add, rdOf] using hcell
 clear hcell; have hn0 : 0 < n + 1 := by omega
 go_wp2_with (first | fail)
 with_reducible refine (verb_Kind.calls w0 kd _ HK.out).mono ?_
 rintro e_ w2 ⟨rfl, hB⟩
 have BR2 := Aside0.mk (blk_below BR.out hB); have HB2 := Aside0.mk (below_step HB.out hB); have HF2 := Aside0.mk (Kd.F_below (Kd.C_F Kd.heap_string HCW.out) hB); have hlt2 : w.heap.size < w2.heap.size := blk_lt BR2.out; have hle2 : w1.heap.size ≤ w2.heap.size := hB.size
 clear hB BR HB hlt HCW hx0 hn0; obtain rfl : n = 6 := by have h1 := HN.out; have h2 := HLN.out; omega
 obtain ⟨A1, hcut0, hcutF⟩ := cutF (some ad) (7) c0 1 (by omega); have hcut : ∀ W : World, (Instr.slice 34 (.slice (some ad) (7) c0) (some (.int .i64 1)) none none).run Tryd.prog W = .ok (.slice A1 6 (c0 - 1)) W := fun W => by simpa using hcut0 W
 have HF3 := Aside0.mk (show Kd.F Kd.string w2 (fun b => b < w1.heap.size) A1 wt.length wt from hcutF w2 (fun b => b < w1.heap.size) (w0 :: wt) (by have h := HN.out; rw [List.length_cons, ← h]) HCc.out (by have h := HF2.out; have h2 := HN.out; have e : (w0 :: wt).length = 7 := (by rw [List.length_cons, ← h2]); rw [e]; exact h)); have HC3 : Aside0 (wt.length ≤ c0 - 1) := ⟨by have h1 := HCc.out; have h2 := HN.out; omega⟩; have hc1 := HCc.out; clear hcut0 hcutF
 go_wp2_with (first | fail)
 have hlw2 : line_words.f kd = some 6 := by unfold line_words.f; rw [HWD.out]
 have HW2 := Aside0.mk hlw2; clear hlw2
 have BRa := bA BR2.out (.cells #[.int .i64 kd, .slice none 0 0, .int .u32 0, .int .i64 0, .string ⟨#[]⟩, .int .u64 0, .int .u64 0, .bool false] 37); have HBa := eA HB2.out (.cells #[.int .i64 kd, .slice none 0 0, .int .u32 0, .int .i64 0, .string ⟨#[]⟩, .int .u64 0, .int .u64 0, .bool false] 37); have HFa := Kd.F_alloc HF3.out (.cells #[.int .i64 kd, .slice none 0 0, .int .u32 0, .int .i64 0, .string ⟨#[]⟩, .int .u64 0, .int .u64 0, .bool false] 37); have BCa := blk_new w2 (.cells #[.int .i64 kd, .slice none 0 0, .int .u32 0, .int .i64 0, .string ⟨#[]⟩, .int .u64 0, .int .u64 0, .bool false] 37)
 have hlta : w.heap.size ≠ w2.heap.size := by omega
 have hle : w1.heap.size ≤ w2.heap.size := hle2; have hltc : w.heap.size < w2.heap.size := hlt2
 generalize hcb : w2.heap.size = cb at BCa hlta hle hltc ⊢; generalize (w2.alloc (.cells #[.int .i64 kd, .slice none 0 0, .int .u32 0, .int .i64 0, .string ⟨#[]⟩, .int .u64 0, .int .u64 0, .bool false] 37)) = W3 at BRa HBa HFa BCa ⊢
 with_reducible refine (line_words.calls kd 6 _ HW2.out).mono ?_
 rintro e_ w3 ⟨rfl, ⟨nd, rfl⟩⟩
 have BR3 := Aside0.mk (bN BRa nd); have HB3 := Aside0.mk (eN HBa nd); have HF3' := Aside0.mk (Kd.F_drewN HFa nd); have BC3 := Aside0.mk (bN BCa nd)
 clear BRa HBa HFa BCa BR2 HB2 HF2 HF3 HW2 hlt2; generalize (W3.drewN nd) = w3 at BR3 HB3 HF3' BC3 ⊢; have hcl3 : cb < w3.heap.size := blk_lt BC3.out; have hrl3 : w.heap.size < w3.heap.size := blk_lt BR3.out
 obtain ⟨ad1, rfl, hcl⟩ := Kd.at_string (Kd.F_now HF3'.out) (5 : Int) (by omega) (by rw [HLN.out]; omega); have hxl : w3.cell? ⟨ad1.block, ad1.off + 5, none⟩ = some (.string (wt.getD 5 ByteArray.empty)) := by simpa [Addr.add, rdOf] using hcl
 clear hcl; rw [HLW] at hxl; have hf7 : w3.frozen? ⟨cb, 7, none⟩ = false := blk_frozen BC3.out 7; have hc7 : w3.cell? ⟨cb, 7, none⟩ = some (.bool false) := (blk_cell BC3.out 7).trans rfl
 have htk : ∀ W : World, (Instr.slice 34 (.slice (some ad1) 6 (c0 - 1)) none (some (.int .i64 5)) none).run Tryd.prog W = .ok (.slice (some ad1) 5 (c0 - 1)) W := fun W => by simpa using takeF (some ad1) 6 (c0 - 1) 5 (by omega) (by omega) W
 go_wp2_with (first | fail)
 have BR4 := Aside0.mk (blk_far (p := ⟨cb, 7, none⟩) BR3.out hlta (.bool true)); have BC4 := Aside0.mk (blk_set BC3.out 7 (.bool true)); have HB4 := Aside0.mk (eS (g := cb) (j := 7) (v := .bool true) HB3.out (by omega)); have HF4 := Aside0.mk (Kd.F_far (p := ⟨cb, 7, none⟩) (show Kd.F Kd.string w3 (fun b => b < w1.heap.size) (some ad1) (wt.take 5).length (wt.take 5) from Kd.F_take HF3'.out (by rw [HLN.out]; omega)) (fun b hb => by have h : b < w1.heap.size := hb; show b ≠ cb; omega) (.bool true))
 have HLL : Aside0 ((wt.take 5).length = 5) := ⟨by rw [List.length_take, HLN.out]; rfl⟩; rw [show ∀ (p0 p1 p2 p3 p4 p5 p6 p7 u : Value), (#[p0, p1, p2, p3, p4, p5, p6, p7] : Array Value).setIfInBounds 7 u = #[p0, p1, p2, p3, p4, p5, p6, u] from fun _ _ _ _ _ _ _ _ _ => rfl] at BC4; clear BR3 BC3 HB3 HF3' hxl hf7 hc7 htk hcl3 hrl3; generalize (w3.setCell ⟨cb, 7, none⟩ (.bool true)) = w4 at BR4 BC4 HB4 HF4 ⊢; generalize hls : wt.take 5 = ls at HF4 HLL; have HLS := Aside0.mk hls; clear hls
 obtain ⟨A4, hA4⟩ : ∃ A4, A4 = some ad1 := ⟨_, rfl⟩; rw [← hA4] at HF4 ⊢; clear hA4
 have HCX : Aside0 (5 ≤ c0 - 1) := ⟨by omega⟩; clear hc1
 with_reducible refine (verb_Stores.calls kd true _ HST.out).mono ?_
 rintro e_ w5 ⟨rfl, ⟨nd5, rfl⟩⟩
 have BRp := bN BR4.out nd5; have HBp := eN HB4.out nd5; have BC5 := Aside0.mk (bN BC4.out nd5); have HF5 := Aside0.mk (Kd.F_drewN HF4.out nd5)
 clear BR4 HB4 BC4 HF4; generalize (w4.drewN nd5) = w5 at BRp HBp BC5 HF5 ⊢; obtain ⟨hcz, hfz⟩ := d8 BC5; have hlt5 : w.heap.size < w5.heap.size := blk_lt BRp
 go_wp2_with (first | fail)
 obtain ⟨N0, hN0⟩ : ∃ N0, N0 = 5 := ⟨_, rfl⟩; have hL5 : ls.length = 5 := HLL.out; rw [← hL5]; refine (line_stores.calls k kd true A4 (c0 - 1) ls (r1, r2, r3, r4, r5, r6, r7, r8, r9, r10, r11) _ (Kd.F_now HF5.out) (by rw [hL5]; exact HCX.out) (HL.out.on HBp) (by rw [← HLS.out]; exact HR_.out)).mono ?_
 clear hcz hfz hL5
 rintro e_ w6 ⟨v2, rfl, hR, hB⟩
 obtain ⟨Ak, ck, rfl⟩ := Kd.R_slice hR; have BR6 := Aside0.mk (blk_below BRp hB); have HB6 := Aside0.mk (below_step HBp hB); have HR6 := Aside0.mk hR; clear hR hB
 dsimp only
 obtain ⟨hcy, hfy⟩ := d11 BR6; go_wp2; have N5 : Aside0 (w.heap.size ≤ w.heap.size) := ⟨Nat.le_refl _⟩; refine bodyPost_ret (results_cell_row rfl _ _ w.heap.size 57 #[.int .i64 r1, .int .i64 r2, .slice Ak r3.length ck, .int .u32 r4, .int .i64 r5, .string r6, .int .u64 r7, .int .u64 r8, .bool r9, .int .i64 r10, .int .i64 r11] (0, 0) _ rfl (bV BR6.out) Tryd.underlying57 rfl (by kernel_rfl)) rfl ?_
 refine ⟨_, rfl, ?_, bH HB6.out⟩
 refine Kd.R_mono (ok := fun b => b ≠ w.heap.size) ?_ (fun _ _ => trivial)
 (iterate 11 (refine Kd.R_far (p := ⟨w.heap.size, _, none⟩) ?_ (fun _ hk => hk) _))
 exact Kd.R_lower (Kd.R_mono (Kd.R_bound HR6.out) (fun b hb => by have h1 : w5.heap.size ≤ b := hb.2.1; show b ≠ w.heap.size; omega)) (Nat.le_of_lt hlt5)
set_option maxHeartbeats 2000000 in
set_option maxRecDepth 100000 in
theorem line_Parse.st5e (k : Nat) (s w0 : ByteArray) (wt : List ByteArray) (kd : Int) (r1 r2 : Int) (r3 : List ByteArray) (r4 r5 : Int) (r6 : ByteArray) (r7 r8 : Int) (r9 : Bool) (r10 r11 : Int) (w : World) (hL : LdS w) (hs : ¬ 160 < s.size) (hw : line_Words.f s = some (w0 :: wt)) (hk : verb_Kind.f w0 = some kd) (hk0 : ¬ kd = 0) (hkd : ¬ kd ≤ 4) (hwd : line_words.v kd = 6) (hln : wt.length = 5) (hst : verb_Stores.f kd = some true) (hr : line_stores.f k kd false (wt) = some (r1, r2, r3, r4, r5, r6, r7, r8, r9, r10, r11)) :
  Calls Tryd.prog 22 #[.string s] w (ParsedPost w (r1, r2, r3, r4, r5, r6, r7, r8, r9, r10, r11)) := by
 have HL := Aside0.mk hL; have HR_ := Aside0.mk hr; have HST := Aside0.mk hst; clear hL hr hst
 have hk0 : (kd == 0) = false := beq_eq_false_iff_ne.2 hk0; have hk4 : decide (kd ≤ 4) = false := decide_eq_false hkd; have HWD := Aside0.mk hwd; clear hkd hwd
 have h160 : decide (160 < s.size) = false := decide_eq_false (by omega); have h161 : decide ((160 : Int) < (s.size : Int)) = false := decide_eq_false (by omega); clear hs; obtain ⟨ws, hws⟩ : ∃ ws : List ByteArray, ws = w0 :: wt := ⟨_, rfl⟩; rw [← hws] at hw
 have HK := Aside0.mk hk; clear hk
 have HW := Aside0.mk hw; clear hw
 go_enter Tryd.func22, Tryd.ntmps22
 go_wp2_with (first | fail)
 have BR0 := blk_new w (.cells #[.int .i64 0, .int .i64 0, .slice none 0 0, .int .u32 0, .int .i64 0, .string ⟨#[]⟩, .int .u64 0, .int .u64 0, .bool false, .int .i64 0, .int .i64 0] 57); have HB0 := eA (Below.refl w.heap.size w) (.cells #[.int .i64 0, .int .i64 0, .slice none 0 0, .int .u32 0, .int .i64 0, .string ⟨#[]⟩, .int .u64 0, .int .u64 0, .bool false, .int .i64 0, .int .i64 0] 57)
 have hs0 : (w.alloc (.cells #[.int .i64 0, .int .i64 0, .slice none 0 0, .int .u32 0, .int .i64 0, .string ⟨#[]⟩, .int .u64 0, .int .u64 0, .bool false, .int .i64 0, .int .i64 0] 57)).heap.size = w.heap.size + 1 := by simp
 generalize (w.alloc (.cells #[.int .i64 0, .int .i64 0, .slice none 0 0, .int .u32 0, .int .i64 0, .string ⟨#[]⟩, .int .u64 0, .int .u64 0, .bool false, .int .i64 0, .int .i64 0] 57)) = W0 at BR0 HB0 hs0 ⊢
 with_reducible refine (line_Words.calls s ws _ HW.out).mono ?_
 rintro e_ w1 ⟨v0, rfl, hR, hB⟩
 obtain ⟨A0, c0, rfl, hc0, hC⟩ := Kd.R_reads hR; have BR := Aside0.mk (blk_below BR0 hB); have HB := Aside0.mk (below_step HB0 hB)
 have hlt : w.heap.size < w1.heap.size := blk_lt BR.out
 have HC := Aside0.mk hC; have HCc := Aside0.mk hc0; have HMX := Aside0.mk (Kd.F_max (Kd.C_F Kd.heap_string hC))
 clear BR0 HB0 hs0 hR hB hC hc0; obtain ⟨n, hn⟩ : ∃ n, n = wt.length := ⟨_, rfl⟩; have hl : ws.length = n + 1 := by rw [hws, hn]; rfl
 rw [hl] at HC HCc HMX ⊢; have HCW := Aside0.mk (show Kd.C Kd.string w1 A0 (n + 1) (w0 :: wt) by rw [← hws]; exact HC.out); have HN := Aside0.mk hn; clear HC hws hl hn HW
 obtain ⟨ad, rfl, hcell⟩ := Kd.at_string HCW.out (0 : Int) (by omega) (by omega); have hx0 : w1.cell? ad = some (.string w0) := by simpa [Addr.add, rdOf] using hcell
 clear hcell; have hn0 : 0 < n + 1 := by omega
 go_wp2_with (first | fail)
 with_reducible refine (verb_Kind.calls w0 kd _ HK.out).mono ?_
 rintro e_ w2 ⟨rfl, hB⟩
 have BR2 := Aside0.mk (blk_below BR.out hB); have HB2 := Aside0.mk (below_step HB.out hB); have HF2 := Aside0.mk (Kd.F_below (Kd.C_F Kd.heap_string HCW.out) hB); have hlt2 : w.heap.size < w2.heap.size := blk_lt BR2.out; have hle2 : w1.heap.size ≤ w2.heap.size := hB.size
 clear hB BR HB hlt HCW hx0 hn0; obtain rfl : n = 5 := by have h1 := HN.out; omega
 have HLE := Aside0.mk hln; clear hln
 obtain ⟨A1, hcut0, hcutF⟩ := cutF (some ad) (6) c0 1 (by omega); have hcut : ∀ W : World, (Instr.slice 34 (.slice (some ad) (6) c0) (some (.int .i64 1)) none none).run Tryd.prog W = .ok (.slice A1 5 (c0 - 1)) W := fun W => by simpa using hcut0 W
 have HF3 := Aside0.mk (show Kd.F Kd.string w2 (fun b => b < w1.heap.size) A1 wt.length wt from hcutF w2 (fun b => b < w1.heap.size) (w0 :: wt) (by have h := HN.out; rw [List.length_cons, ← h]) HCc.out (by have h := HF2.out; have h2 := HN.out; have e : (w0 :: wt).length = 6 := (by rw [List.length_cons, ← h2]); rw [e]; exact h)); have HC3 : Aside0 (wt.length ≤ c0 - 1) := ⟨by have h1 := HCc.out; have h2 := HN.out; omega⟩; have hc1 := HCc.out; clear hcut0 hcutF
 go_wp2_with (first | fail)
 have hlw2 : line_words.f kd = some 6 := by unfold line_words.f; rw [HWD.out]
 have HW2 := Aside0.mk hlw2; clear hlw2
 have BRa := bA BR2.out (.cells #[.int .i64 kd, .slice none 0 0, .int .u32 0, .int .i64 0, .string ⟨#[]⟩, .int .u64 0, .int .u64 0, .bool false] 37); have HBa := eA HB2.out (.cells #[.int .i64 kd, .slice none 0 0, .int .u32 0, .int .i64 0, .string ⟨#[]⟩, .int .u64 0, .int .u64 0, .bool false] 37); have HFa := Kd.F_alloc HF3.out (.cells #[.int .i64 kd, .slice none 0 0, .int .u32 0, .int .i64 0, .string ⟨#[]⟩, .int .u64 0, .int .u64 0, .bool false] 37); have BCa := blk_new w2 (.cells #[.int .i64 kd, .slice none 0 0, .int .u32 0, .int .i64 0, .string ⟨#[]⟩, .int .u64 0, .int .u64 0, .bool false] 37)
 have hlta : w.heap.size ≠ w2.heap.size := by omega
 have hle : w1.heap.size ≤ w2.heap.size := hle2; have hltc : w.heap.size < w2.heap.size := hlt2
 generalize hcb : w2.heap.size = cb at BCa hlta hle hltc ⊢; generalize (w2.alloc (.cells #[.int .i64 kd, .slice none 0 0, .int .u32 0, .int .i64 0, .string ⟨#[]⟩, .int .u64 0, .int .u64 0, .bool false] 37)) = W3 at BRa HBa HFa BCa ⊢
 with_reducible refine (line_words.calls kd 6 _ HW2.out).mono ?_
 rintro e_ w3 ⟨rfl, ⟨nd, rfl⟩⟩
 have BR3 := Aside0.mk (bN BRa nd); have HB3 := Aside0.mk (eN HBa nd); have HF3' := Aside0.mk (Kd.F_drewN HFa nd); have BC3 := Aside0.mk (bN BCa nd)
 clear BRa HBa HFa BCa BR2 HB2 HF2 HF3 HW2 hlt2; generalize (W3.drewN nd) = w3 at BR3 HB3 HF3' BC3 ⊢; have hcl3 : cb < w3.heap.size := blk_lt BC3.out; have hrl3 : w.heap.size < w3.heap.size := blk_lt BR3.out
 go_wp2_with (first | fail)
 have BR4 := BR3; have BC4 := BC3; have HB4 := HB3; have HF4 := HF3'; have HLL := HLE; clear BR3 BC3 HB3 HF3' hcl3 hrl3
 generalize w3 = w4 at BR4 BC4 HB4 HF4 ⊢; obtain ⟨A4, hA4⟩ : ∃ A4, A4 = A1 := ⟨_, rfl⟩; rw [← hA4] at HF4 ⊢; clear hA4 hcut
 generalize hls : wt = ls at HF4 HLL; have HLS := Aside0.mk hls; clear hls
 have HCX : Aside0 (5 ≤ c0 - 1) := ⟨by omega⟩; clear hc1
 with_reducible refine (verb_Stores.calls kd true _ HST.out).mono ?_
 rintro e_ w5 ⟨rfl, ⟨nd5, rfl⟩⟩
 have BRp := bN BR4.out nd5; have HBp := eN HB4.out nd5; have BC5 := Aside0.mk (bN BC4.out nd5); have HF5 := Aside0.mk (Kd.F_drewN HF4.out nd5)
 clear BR4 HB4 BC4 HF4; generalize (w4.drewN nd5) = w5 at BRp HBp BC5 HF5 ⊢; obtain ⟨hcz, hfz⟩ := d8 BC5; have hlt5 : w.heap.size < w5.heap.size := blk_lt BRp
 go_wp2_with (first | fail)
 obtain ⟨N0, hN0⟩ : ∃ N0, N0 = 5 := ⟨_, rfl⟩; have hL5 : ls.length = 5 := HLL.out; rw [← hL5]; refine (line_stores.calls k kd false A4 (c0 - 1) ls (r1, r2, r3, r4, r5, r6, r7, r8, r9, r10, r11) _ (Kd.F_now HF5.out) (by rw [hL5]; exact HCX.out) (HL.out.on HBp) (by rw [← HLS.out]; exact HR_.out)).mono ?_
 clear hcz hfz hL5
 rintro e_ w6 ⟨v2, rfl, hR, hB⟩
 obtain ⟨Ak, ck, rfl⟩ := Kd.R_slice hR; have BR6 := Aside0.mk (blk_below BRp hB); have HB6 := Aside0.mk (below_step HBp hB); have HR6 := Aside0.mk hR; clear hR hB
 dsimp only
 obtain ⟨hcy, hfy⟩ := d11 BR6; go_wp2; have N5 : Aside0 (w.heap.size ≤ w.heap.size) := ⟨Nat.le_refl _⟩; refine bodyPost_ret (results_cell_row rfl _ _ w.heap.size 57 #[.int .i64 r1, .int .i64 r2, .slice Ak r3.length ck, .int .u32 r4, .int .i64 r5, .string r6, .int .u64 r7, .int .u64 r8, .bool r9, .int .i64 r10, .int .i64 r11] (0, 0) _ rfl (bV BR6.out) Tryd.underlying57 rfl (by kernel_rfl)) rfl ?_
 refine ⟨_, rfl, ?_, bH HB6.out⟩
 refine Kd.R_mono (ok := fun b => b ≠ w.heap.size) ?_ (fun _ _ => trivial)
 (iterate 11 (refine Kd.R_far (p := ⟨w.heap.size, _, none⟩) ?_ (fun _ hk => hk) _))
 exact Kd.R_lower (Kd.R_mono (Kd.R_bound HR6.out) (fun b hb => by have h1 : w5.heap.size ≤ b := hb.2.1; show b ≠ w.heap.size; omega)) (Nat.le_of_lt hlt5)
set_option maxHeartbeats 2000000 in
set_option maxRecDepth 100000 in
theorem line_Parse.flush_q (k : Nat) (s w0 : ByteArray) (wt : List ByteArray) (kd : Int) (w : World) (hL : LdS w) (hs : ¬ 160 < s.size) (hw : line_Words.f s = some (w0 :: wt)) (hk : verb_Kind.f w0 = some kd) (hk0 : ¬ kd = 0) (hkd : ¬ kd ≤ 4) (hwd : line_words.v kd = 1) (hln : wt.length = 1) (HLW : wt.getD 0 ByteArray.empty = (⟨#[110, 111, 114, 101, 112, 108, 121]⟩ : ByteArray)) (hst : verb_Stores.f kd = some false) (hkk : kd = 15) (hlt_ : wt.take 0 = ([] : List ByteArray)) :
  Calls Tryd.prog 22 #[.string s] w (ParsedPost w (dnV 0 kd [] 0 0 true)) := by
 have b14 : (kd == 14) = false := beq_eq_false_iff_ne.2 (by omega); have b12 : (kd == 12) = false := beq_eq_false_iff_ne.2 (by omega); have b13 : (kd == 13) = false := beq_eq_false_iff_ne.2 (by omega)
 have HL := Aside0.mk hL; have HST := Aside0.mk hst; have HLT := Aside0.mk hlt_; clear hL hst hkk hlt_
 have hk0 : (kd == 0) = false := beq_eq_false_iff_ne.2 hk0; have hk4 : decide (kd ≤ 4) = false := decide_eq_false hkd; have HWD := Aside0.mk hwd; clear hkd hwd
 have HLN := Aside0.mk hln; clear hln
 have h160 : decide (160 < s.size) = false := decide_eq_false (by omega); have h161 : decide ((160 : Int) < (s.size : Int)) = false := decide_eq_false (by omega); clear hs; obtain ⟨ws, hws⟩ : ∃ ws : List ByteArray, ws = w0 :: wt := ⟨_, rfl⟩; rw [← hws] at hw
 have HK := Aside0.mk hk; clear hk
 have HW := Aside0.mk hw; clear hw
 go_enter Tryd.func22, Tryd.ntmps22
 go_wp2_with (first | fail)
 have BR0 := blk_new w (.cells #[.int .i64 0, .int .i64 0, .slice none 0 0, .int .u32 0, .int .i64 0, .string ⟨#[]⟩, .int .u64 0, .int .u64 0, .bool false, .int .i64 0, .int .i64 0] 57); have HB0 := eA (Below.refl w.heap.size w) (.cells #[.int .i64 0, .int .i64 0, .slice none 0 0, .int .u32 0, .int .i64 0, .string ⟨#[]⟩, .int .u64 0, .int .u64 0, .bool false, .int .i64 0, .int .i64 0] 57)
 have hs0 : (w.alloc (.cells #[.int .i64 0, .int .i64 0, .slice none 0 0, .int .u32 0, .int .i64 0, .string ⟨#[]⟩, .int .u64 0, .int .u64 0, .bool false, .int .i64 0, .int .i64 0] 57)).heap.size = w.heap.size + 1 := by simp
 generalize (w.alloc (.cells #[.int .i64 0, .int .i64 0, .slice none 0 0, .int .u32 0, .int .i64 0, .string ⟨#[]⟩, .int .u64 0, .int .u64 0, .bool false, .int .i64 0, .int .i64 0] 57)) = W0 at BR0 HB0 hs0 ⊢
 with_reducible refine (line_Words.calls s ws _ HW.out).mono ?_
 rintro e_ w1 ⟨v0, rfl, hR, hB⟩
 obtain ⟨A0, c0, rfl, hc0, hC⟩ := Kd.R_reads hR; have BR := Aside0.mk (blk_below BR0 hB); have HB := Aside0.mk (below_step HB0 hB)
 have hlt : w.heap.size < w1.heap.size := blk_lt BR.out
 have HC := Aside0.mk hC; have HCc := Aside0.mk hc0; have HMX := Aside0.mk (Kd.F_max (Kd.C_F Kd.heap_string hC))
 clear BR0 HB0 hs0 hR hB hC hc0; obtain ⟨n, hn⟩ : ∃ n, n = wt.length := ⟨_, rfl⟩; have hl : ws.length = n + 1 := by rw [hws, hn]; rfl
 rw [hl] at HC HCc HMX ⊢; have HCW := Aside0.mk (show Kd.C Kd.string w1 A0 (n + 1) (w0 :: wt) by rw [← hws]; exact HC.out); have HN := Aside0.mk hn; clear HC hws hl hn HW
 obtain ⟨ad, rfl, hcell⟩ := Kd.at_string HCW.out (0 : Int) (by omega) (by omega); have hx0 : w1.cell? ad = some (.string w0) := by simpa [Addr.add, rdOf] using hcell
 clear hcell; have hn0 : 0 < n + 1 := by omega
 go_wp2_with (first | fail)
 with_reducible refine (verb_Kind.calls w0 kd _ HK.out).mono ?_
 rintro e_ w2 ⟨rfl, hB⟩
 have BR2 := Aside0.mk (blk_below BR.out hB); have HB2 := Aside0.mk (below_step HB.out hB); have HF2 := Aside0.mk (Kd.F_below (Kd.C_F Kd.heap_string HCW.out) hB); have hlt2 : w.heap.size < w2.heap.size := blk_lt BR2.out; have hle2 : w1.heap.size ≤ w2.heap.size := hB.size
 clear hB BR HB hlt HCW hx0 hn0; obtain rfl : n = 1 := by have h1 := HN.out; have h2 := HLN.out; omega
 obtain ⟨A1, hcut0, hcutF⟩ := cutF (some ad) (2) c0 1 (by omega); have hcut : ∀ W : World, (Instr.slice 34 (.slice (some ad) (2) c0) (some (.int .i64 1)) none none).run Tryd.prog W = .ok (.slice A1 1 (c0 - 1)) W := fun W => by simpa using hcut0 W
 have HF3 := Aside0.mk (show Kd.F Kd.string w2 (fun b => b < w1.heap.size) A1 wt.length wt from hcutF w2 (fun b => b < w1.heap.size) (w0 :: wt) (by have h := HN.out; rw [List.length_cons, ← h]) HCc.out (by have h := HF2.out; have h2 := HN.out; have e : (w0 :: wt).length = 2 := (by rw [List.length_cons, ← h2]); rw [e]; exact h)); have HC3 : Aside0 (wt.length ≤ c0 - 1) := ⟨by have h1 := HCc.out; have h2 := HN.out; omega⟩; have hc1 := HCc.out; clear hcut0 hcutF
 go_wp2_with (first | fail)
 have hlw2 : line_words.f kd = some 1 := by unfold line_words.f; rw [HWD.out]
 have HW2 := Aside0.mk hlw2; clear hlw2
 have BRa := bA BR2.out (.cells #[.int .i64 kd, .slice none 0 0, .int .u32 0, .int .i64 0, .string ⟨#[]⟩, .int .u64 0, .int .u64 0, .bool false] 37); have HBa := eA HB2.out (.cells #[.int .i64 kd, .slice none 0 0, .int .u32 0, .int .i64 0, .string ⟨#[]⟩, .int .u64 0, .int .u64 0, .bool false] 37); have HFa := Kd.F_alloc HF3.out (.cells #[.int .i64 kd, .slice none 0 0, .int .u32 0, .int .i64 0, .string ⟨#[]⟩, .int .u64 0, .int .u64 0, .bool false] 37); have BCa := blk_new w2 (.cells #[.int .i64 kd, .slice none 0 0, .int .u32 0, .int .i64 0, .string ⟨#[]⟩, .int .u64 0, .int .u64 0, .bool false] 37)
 have hlta : w.heap.size ≠ w2.heap.size := by omega
 have hle : w1.heap.size ≤ w2.heap.size := hle2; have hltc : w.heap.size < w2.heap.size := hlt2
 generalize hcb : w2.heap.size = cb at BCa hlta hle hltc ⊢; generalize (w2.alloc (.cells #[.int .i64 kd, .slice none 0 0, .int .u32 0, .int .i64 0, .string ⟨#[]⟩, .int .u64 0, .int .u64 0, .bool false] 37)) = W3 at BRa HBa HFa BCa ⊢
 with_reducible refine (line_words.calls kd 1 _ HW2.out).mono ?_
 rintro e_ w3 ⟨rfl, ⟨nd, rfl⟩⟩
 have BR3 := Aside0.mk (bN BRa nd); have HB3 := Aside0.mk (eN HBa nd); have HF3' := Aside0.mk (Kd.F_drewN HFa nd); have BC3 := Aside0.mk (bN BCa nd)
 clear BRa HBa HFa BCa BR2 HB2 HF2 HF3 HW2 hlt2; generalize (W3.drewN nd) = w3 at BR3 HB3 HF3' BC3 ⊢; have hcl3 : cb < w3.heap.size := blk_lt BC3.out; have hrl3 : w.heap.size < w3.heap.size := blk_lt BR3.out
 obtain ⟨ad1, rfl, hcl⟩ := Kd.at_string (Kd.F_now HF3'.out) (0 : Int) (by omega) (by rw [HLN.out]; omega); have hxl : w3.cell? ad1 = some (.string (wt.getD 0 ByteArray.empty)) := by simpa [Addr.add, rdOf] using hcl
 clear hcl; rw [HLW] at hxl; have hf7 : w3.frozen? ⟨cb, 7, none⟩ = false := blk_frozen BC3.out 7; have hc7 : w3.cell? ⟨cb, 7, none⟩ = some (.bool false) := (blk_cell BC3.out 7).trans rfl
 have htk : ∀ W : World, (Instr.slice 34 (.slice (some ad1) 1 (c0 - 1)) none (some (.int .i64 0)) none).run Tryd.prog W = .ok (.slice (some ad1) 0 (c0 - 1)) W := fun W => by simpa using takeF (some ad1) 1 (c0 - 1) 0 (by omega) (by omega) W
 go_wp2_with (first | fail)
 have BR4 := Aside0.mk (blk_far (p := ⟨cb, 7, none⟩) BR3.out hlta (.bool true)); have BC4 := Aside0.mk (blk_set BC3.out 7 (.bool true)); have HB4 := Aside0.mk (eS (g := cb) (j := 7) (v := .bool true) HB3.out (by omega)); have HF4 := Aside0.mk (Kd.F_far (p := ⟨cb, 7, none⟩) (show Kd.F Kd.string w3 (fun b => b < w1.heap.size) (some ad1) (wt.take 0).length (wt.take 0) from Kd.F_take HF3'.out (by rw [HLN.out]; omega)) (fun b hb => by have h : b < w1.heap.size := hb; show b ≠ cb; omega) (.bool true))
 have HLL : Aside0 ((wt.take 0).length = 0) := ⟨by rw [List.length_take, HLN.out]; rfl⟩; rw [show ∀ (p0 p1 p2 p3 p4 p5 p6 p7 u : Value), (#[p0, p1, p2, p3, p4, p5, p6, p7] : Array Value).setIfInBounds 7 u = #[p0, p1, p2, p3, p4, p5, p6, u] from fun _ _ _ _ _ _ _ _ _ => rfl] at BC4; clear BR3 BC3 HB3 HF3' hxl hf7 hc7 htk hcl3 hrl3; generalize (w3.setCell ⟨cb, 7, none⟩ (.bool true)) = w4 at BR4 BC4 HB4 HF4 ⊢; generalize hls : wt.take 0 = ls at HF4 HLL; have HLS := Aside0.mk hls; clear hls
 obtain ⟨A4, hA4⟩ : ∃ A4, A4 = some ad1 := ⟨_, rfl⟩; rw [← hA4] at HF4 ⊢; clear hA4
 have HCX : Aside0 (0 ≤ c0 - 1) := ⟨by omega⟩; clear hc1
 with_reducible refine (verb_Stores.calls kd false _ HST.out).mono ?_
 rintro e_ w5 ⟨rfl, ⟨nd5, rfl⟩⟩
 have BR5 := bN BR4.out nd5; have HB5 := eN HB4.out nd5; have BC5 := bN BC4.out nd5; have HF5 := Kd.F_drewN HF4.out nd5
 clear BR4 HB4 BC4 HF4; generalize (w4.drewN nd5) = w5 at BR5 HB5 BC5 HF5 ⊢; have hlsv := HLS.out; rw [HLT.out] at hlsv; subst hlsv
 have HI0 := Rdr.new (ok := fun b => b < w1.heap.size) (W := w5) (A := A4) (c := c0 - 1) (f0 := ([] : List ByteArray)) 0 HCX.out HF5 (fun b hb => by have h : b < w1.heap.size := hb; have h2 := blk_lt BC5; omega); have BR6 := Aside0.mk (bA BR5 (.cells #[.slice A4 0 (c0 - 1), .int .i64 0] 71)); have BC6 := Aside0.mk (bA BC5 (.cells #[.slice A4 0 (c0 - 1), .int .i64 0] 71)); have HB6 := Aside0.mk (eA HB5 (.cells #[.slice A4 0 (c0 - 1), .int .i64 0] 71))
 have hcg : cb < w5.heap.size := blk_lt BC5
 have HI6 : Aside0 (Rdr (fun b => b < w1.heap.size) (w5.alloc (.cells #[.slice A4 0 (c0 - 1), .int .i64 0] 71)) w5.heap.size ([] : List ByteArray) 0) := ⟨HI0⟩; obtain ⟨g, hg⟩ : ∃ g, g = w5.heap.size := ⟨_, rfl⟩; obtain ⟨hcz, hfz⟩ := d8 (Aside0.mk BC5); clear BR5 HB5 BC5 HF5 HI0
 go_wp2_with (first | fail)
 clear hcz hfz; rw [← hg] at HI6 hcg ⊢; clear hg
 generalize (w5.alloc (.cells #[.slice A4 0 (c0 - 1), .int .i64 0] 71)) = w6 at BR6 BC6 HB6 HI6 ⊢; have HGC : Aside0 (w.heap.size < cb ∧ cb < g ∧ w1.heap.size ≤ cb) := ⟨hltc, hcg, hle⟩; clear hcg
 have hD := HI6.out; have BRp := BR6.out; have HBp := HB6.out
 ·skip
  with_reducible refine (Rdr.done0 g [] kd none 0 0 0 0 ⟨#[]⟩ 0 0 true _ hD).mono ?_
  rintro e_ w10 ⟨rfl, hB⟩
  have BR10 := Aside0.mk (blk_below BRp hB); have HB10 := Aside0.mk (below_step HBp hB); clear hB hD
  have HVD : Aside0 (0 = 0) := ⟨rfl⟩; obtain ⟨hcy, hfy⟩ := d11 BR10; go_wp2; have N5 : Aside0 (w.heap.size ≤ w.heap.size) := ⟨Nat.le_refl _⟩; refine bodyPost_ret (results_cell_row rfl _ _ w.heap.size 57 #[.int .i64 1, .int .i64 kd, .slice none 0 0, .int .u32 0, .int .i64 0, .string ⟨#[]⟩, .int .u64 0, .int .u64 0, .bool true, .int .i64 0, .int .i64 0] (0, 0) _ rfl (bV BR10.out) Tryd.underlying57 rfl (by kernel_rfl)) rfl ?_
  refine ParsedPost.mk0 rfl rfl ?_ (bH HB10.out)
  exact Kd.R_nil _ _ _ _ _
set_option maxHeartbeats 2000000 in
set_option maxRecDepth 100000 in
theorem line_Parse.flush_e (k : Nat) (s w0 : ByteArray) (wt : List ByteArray) (kd : Int) (w : World) (hL : LdS w) (hs : ¬ 160 < s.size) (hw : line_Words.f s = some (w0 :: wt)) (hk : verb_Kind.f w0 = some kd) (hk0 : ¬ kd = 0) (hkd : ¬ kd ≤ 4) (hwd : line_words.v kd = 1) (hln : wt.length = 0) (hst : verb_Stores.f kd = some false) (hkk : kd = 15) (hlt_ : wt = ([] : List ByteArray)) :
  Calls Tryd.prog 22 #[.string s] w (ParsedPost w (dnV 0 kd [] 0 0 false)) := by
 have b14 : (kd == 14) = false := beq_eq_false_iff_ne.2 (by omega); have b12 : (kd == 12) = false := beq_eq_false_iff_ne.2 (by omega); have b13 : (kd == 13) = false := beq_eq_false_iff_ne.2 (by omega)
 have HL := Aside0.mk hL; have HST := Aside0.mk hst; have HLT := Aside0.mk hlt_; clear hL hst hkk hlt_
 have hk0 : (kd == 0) = false := beq_eq_false_iff_ne.2 hk0; have hk4 : decide (kd ≤ 4) = false := decide_eq_false hkd; have HWD := Aside0.mk hwd; clear hkd hwd
 have h160 : decide (160 < s.size) = false := decide_eq_false (by omega); have h161 : decide ((160 : Int) < (s.size : Int)) = false := decide_eq_false (by omega); clear hs; obtain ⟨ws, hws⟩ : ∃ ws : List ByteArray, ws = w0 :: wt := ⟨_, rfl⟩; rw [← hws] at hw
 have HK := Aside0.mk hk; clear hk
 have HW := Aside0.mk hw; clear hw
 go_enter Tryd.func22, Tryd.ntmps22
 go_wp2_with (first | fail)
 have BR0 := blk_new w (.cells #[.int .i64 0, .int .i64 0, .slice none 0 0, .int .u32 0, .int .i64 0, .string ⟨#[]⟩, .int .u64 0, .int .u64 0, .bool false, .int .i64 0, .int .i64 0] 57); have HB0 := eA (Below.refl w.heap.size w) (.cells #[.int .i64 0, .int .i64 0, .slice none 0 0, .int .u32 0, .int .i64 0, .string ⟨#[]⟩, .int .u64 0, .int .u64 0, .bool false, .int .i64 0, .int .i64 0] 57)
 have hs0 : (w.alloc (.cells #[.int .i64 0, .int .i64 0, .slice none 0 0, .int .u32 0, .int .i64 0, .string ⟨#[]⟩, .int .u64 0, .int .u64 0, .bool false, .int .i64 0, .int .i64 0] 57)).heap.size = w.heap.size + 1 := by simp
 generalize (w.alloc (.cells #[.int .i64 0, .int .i64 0, .slice none 0 0, .int .u32 0, .int .i64 0, .string ⟨#[]⟩, .int .u64 0, .int .u64 0, .bool false, .int .i64 0, .int .i64 0] 57)) = W0 at BR0 HB0 hs0 ⊢
 with_reducible refine (line_Words.calls s ws _ HW.out).mono ?_
 rintro e_ w1 ⟨v0, rfl, hR, hB⟩
 obtain ⟨A0, c0, rfl, hc0, hC⟩ := Kd.R_reads hR; have BR := Aside0.mk (blk_below BR0 hB); have HB := Aside0.mk (below_step HB0 hB)
 have hlt : w.heap.size < w1.heap.size := blk_lt BR.out
 have HC := Aside0.mk hC; have HCc := Aside0.mk hc0; have HMX := Aside0.mk (Kd.F_max (Kd.C_F Kd.heap_string hC))
 clear BR0 HB0 hs0 hR hB hC hc0; obtain ⟨n, hn⟩ : ∃ n, n = wt.length := ⟨_, rfl⟩; have hl : ws.length = n + 1 := by rw [hws, hn]; rfl
 rw [hl] at HC HCc HMX ⊢; have HCW := Aside0.mk (show Kd.C Kd.string w1 A0 (n + 1) (w0 :: wt) by rw [← hws]; exact HC.out); have HN := Aside0.mk hn; clear HC hws hl hn HW
 obtain ⟨ad, rfl, hcell⟩ := Kd.at_string HCW.out (0 : Int) (by omega) (by omega); have hx0 : w1.cell? ad = some (.string w0) := by simpa [Addr.add, rdOf] using hcell
 clear hcell; have hn0 : 0 < n + 1 := by omega
 go_wp2_with (first | fail)
 with_reducible refine (verb_Kind.calls w0 kd _ HK.out).mono ?_
 rintro e_ w2 ⟨rfl, hB⟩
 have BR2 := Aside0.mk (blk_below BR.out hB); have HB2 := Aside0.mk (below_step HB.out hB); have HF2 := Aside0.mk (Kd.F_below (Kd.C_F Kd.heap_string HCW.out) hB); have hlt2 : w.heap.size < w2.heap.size := blk_lt BR2.out; have hle2 : w1.heap.size ≤ w2.heap.size := hB.size
 clear hB BR HB hlt HCW hx0 hn0; obtain rfl : n = 0 := by have h1 := HN.out; omega
 have HLE := Aside0.mk hln; clear hln
 obtain ⟨A1, hcut0, hcutF⟩ := cutF (some ad) (1) c0 1 (by omega); have hcut : ∀ W : World, (Instr.slice 34 (.slice (some ad) (1) c0) (some (.int .i64 1)) none none).run Tryd.prog W = .ok (.slice A1 0 (c0 - 1)) W := fun W => by simpa using hcut0 W
 have HF3 := Aside0.mk (show Kd.F Kd.string w2 (fun b => b < w1.heap.size) A1 wt.length wt from hcutF w2 (fun b => b < w1.heap.size) (w0 :: wt) (by have h := HN.out; rw [List.length_cons, ← h]) HCc.out (by have h := HF2.out; have h2 := HN.out; have e : (w0 :: wt).length = 1 := (by rw [List.length_cons, ← h2]); rw [e]; exact h)); have HC3 : Aside0 (wt.length ≤ c0 - 1) := ⟨by have h1 := HCc.out; have h2 := HN.out; omega⟩; have hc1 := HCc.out; clear hcut0 hcutF
 go_wp2_with (first | fail)
 have hlw2 : line_words.f kd = some 1 := by unfold line_words.f; rw [HWD.out]
 have HW2 := Aside0.mk hlw2; clear hlw2
 have BRa := bA BR2.out (.cells #[.int .i64 kd, .slice none 0 0, .int .u32 0, .int .i64 0, .string ⟨#[]⟩, .int .u64 0, .int .u64 0, .bool false] 37); have HBa := eA HB2.out (.cells #[.int .i64 kd, .slice none 0 0, .int .u32 0, .int .i64 0, .string ⟨#[]⟩, .int .u64 0, .int .u64 0, .bool false] 37); have HFa := Kd.F_alloc HF3.out (.cells #[.int .i64 kd, .slice none 0 0, .int .u32 0, .int .i64 0, .string ⟨#[]⟩, .int .u64 0, .int .u64 0, .bool false] 37); have BCa := blk_new w2 (.cells #[.int .i64 kd, .slice none 0 0, .int .u32 0, .int .i64 0, .string ⟨#[]⟩, .int .u64 0, .int .u64 0, .bool false] 37)
 have hlta : w.heap.size ≠ w2.heap.size := by omega
 have hle : w1.heap.size ≤ w2.heap.size := hle2; have hltc : w.heap.size < w2.heap.size := hlt2
 generalize hcb : w2.heap.size = cb at BCa hlta hle hltc ⊢; generalize (w2.alloc (.cells #[.int .i64 kd, .slice none 0 0, .int .u32 0, .int .i64 0, .string ⟨#[]⟩, .int .u64 0, .int .u64 0, .bool false] 37)) = W3 at BRa HBa HFa BCa ⊢
 with_reducible refine (line_words.calls kd 1 _ HW2.out).mono ?_
 rintro e_ w3 ⟨rfl, ⟨nd, rfl⟩⟩
 have BR3 := Aside0.mk (bN BRa nd); have HB3 := Aside0.mk (eN HBa nd); have HF3' := Aside0.mk (Kd.F_drewN HFa nd); have BC3 := Aside0.mk (bN BCa nd)
 clear BRa HBa HFa BCa BR2 HB2 HF2 HF3 HW2 hlt2; generalize (W3.drewN nd) = w3 at BR3 HB3 HF3' BC3 ⊢; have hcl3 : cb < w3.heap.size := blk_lt BC3.out; have hrl3 : w.heap.size < w3.heap.size := blk_lt BR3.out
 go_wp2_with (first | fail)
 have BR4 := BR3; have BC4 := BC3; have HB4 := HB3; have HF4 := HF3'; have HLL := HLE; clear BR3 BC3 HB3 HF3' hcl3 hrl3
 generalize w3 = w4 at BR4 BC4 HB4 HF4 ⊢; obtain ⟨A4, hA4⟩ : ∃ A4, A4 = A1 := ⟨_, rfl⟩; rw [← hA4] at HF4 ⊢; clear hA4 hcut
 generalize hls : wt = ls at HF4 HLL; have HLS := Aside0.mk hls; clear hls
 have HCX : Aside0 (0 ≤ c0 - 1) := ⟨by omega⟩; clear hc1
 with_reducible refine (verb_Stores.calls kd false _ HST.out).mono ?_
 rintro e_ w5 ⟨rfl, ⟨nd5, rfl⟩⟩
 have BR5 := bN BR4.out nd5; have HB5 := eN HB4.out nd5; have BC5 := bN BC4.out nd5; have HF5 := Kd.F_drewN HF4.out nd5
 clear BR4 HB4 BC4 HF4; generalize (w4.drewN nd5) = w5 at BR5 HB5 BC5 HF5 ⊢; have hlsv := HLS.out; rw [HLT.out] at hlsv; subst hlsv
 have HI0 := Rdr.new (ok := fun b => b < w1.heap.size) (W := w5) (A := A4) (c := c0 - 1) (f0 := ([] : List ByteArray)) 0 HCX.out HF5 (fun b hb => by have h : b < w1.heap.size := hb; have h2 := blk_lt BC5; omega); have BR6 := Aside0.mk (bA BR5 (.cells #[.slice A4 0 (c0 - 1), .int .i64 0] 71)); have BC6 := Aside0.mk (bA BC5 (.cells #[.slice A4 0 (c0 - 1), .int .i64 0] 71)); have HB6 := Aside0.mk (eA HB5 (.cells #[.slice A4 0 (c0 - 1), .int .i64 0] 71))
 have hcg : cb < w5.heap.size := blk_lt BC5
 have HI6 : Aside0 (Rdr (fun b => b < w1.heap.size) (w5.alloc (.cells #[.slice A4 0 (c0 - 1), .int .i64 0] 71)) w5.heap.size ([] : List ByteArray) 0) := ⟨HI0⟩; obtain ⟨g, hg⟩ : ∃ g, g = w5.heap.size := ⟨_, rfl⟩; obtain ⟨hcz, hfz⟩ := d8 (Aside0.mk BC5); clear BR5 HB5 BC5 HF5 HI0
 go_wp2_with (first | fail)
 clear hcz hfz; rw [← hg] at HI6 hcg ⊢; clear hg
 generalize (w5.alloc (.cells #[.slice A4 0 (c0 - 1), .int .i64 0] 71)) = w6 at BR6 BC6 HB6 HI6 ⊢; have HGC : Aside0 (w.heap.size < cb ∧ cb < g ∧ w1.heap.size ≤ cb) := ⟨hltc, hcg, hle⟩; clear hcg
 have hD := HI6.out; have BRp := BR6.out; have HBp := HB6.out
 ·skip
  with_reducible refine (Rdr.done0 g [] kd none 0 0 0 0 ⟨#[]⟩ 0 0 false _ hD).mono ?_
  rintro e_ w10 ⟨rfl, hB⟩
  have BR10 := Aside0.mk (blk_below BRp hB); have HB10 := Aside0.mk (below_step HBp hB); clear hB hD
  have HVD : Aside0 (0 = 0) := ⟨rfl⟩; obtain ⟨hcy, hfy⟩ := d11 BR10; go_wp2; have N5 : Aside0 (w.heap.size ≤ w.heap.size) := ⟨Nat.le_refl _⟩; refine bodyPost_ret (results_cell_row rfl _ _ w.heap.size 57 #[.int .i64 1, .int .i64 kd, .slice none 0 0, .int .u32 0, .int .i64 0, .string ⟨#[]⟩, .int .u64 0, .int .u64 0, .bool false, .int .i64 0, .int .i64 0] (0, 0) _ rfl (bV BR10.out) Tryd.underlying57 rfl (by kernel_rfl)) rfl ?_
  refine ParsedPost.mk0 rfl rfl ?_ (bH HB10.out)
  exact Kd.R_nil _ _ _ _ _
set_option maxHeartbeats 2000000 in
set_option maxRecDepth 100000 in
theorem line_Parse.delete_q (k : Nat) (s w0 : ByteArray) (wt : List ByteArray) (kd : Int) (a : ByteArray) (kb : Bool) (v1 : Int) (w : World) (hL : LdS w) (hs : ¬ 160 < s.size) (hw : line_Words.f s = some (w0 :: wt)) (hk : verb_Kind.f w0 = some kd) (hk0 : ¬ kd = 0) (hkd : ¬ kd ≤ 4) (hwd : line_words.v kd = 2) (hln : wt.length = 2) (HLW : wt.getD 1 ByteArray.empty = (⟨#[110, 111, 114, 101, 112, 108, 121]⟩ : ByteArray)) (hst : verb_Stores.f kd = some false) (hkk : kd = 11) (hlt_ : wt.take 1 = [a]) (hky : fnv_Key.f k a = some kb) (hv1 : wrV (!kb) 4 0 = v1) :
  Calls Tryd.prog 22 #[.string s] w (ParsedPost w (dnV v1 kd [a] 0 0 true)) := by
 have b14 : (kd == 14) = false := beq_eq_false_iff_ne.2 (by omega); have b12 : (kd == 12) = false := beq_eq_false_iff_ne.2 (by omega); have b13 : (kd == 13) = false := beq_eq_false_iff_ne.2 (by omega)
 have HL := Aside0.mk hL; have HST := Aside0.mk hst; have HLT := Aside0.mk hlt_; clear hL hst hkk hlt_
 have HKY := Aside0.mk hky; have HV1 := Aside0.mk hv1; clear hky hv1
 have hk0 : (kd == 0) = false := beq_eq_false_iff_ne.2 hk0; have hk4 : decide (kd ≤ 4) = false := decide_eq_false hkd; have HWD := Aside0.mk hwd; clear hkd hwd
 have HLN := Aside0.mk hln; clear hln
 have h160 : decide (160 < s.size) = false := decide_eq_false (by omega); have h161 : decide ((160 : Int) < (s.size : Int)) = false := decide_eq_false (by omega); clear hs; obtain ⟨ws, hws⟩ : ∃ ws : List ByteArray, ws = w0 :: wt := ⟨_, rfl⟩; rw [← hws] at hw
 have HK := Aside0.mk hk; clear hk
 have HW := Aside0.mk hw; clear hw
 go_enter Tryd.func22, Tryd.ntmps22
 go_wp2_with (first | fail)
 have BR0 := blk_new w (.cells #[.int .i64 0, .int .i64 0, .slice none 0 0, .int .u32 0, .int .i64 0, .string ⟨#[]⟩, .int .u64 0, .int .u64 0, .bool false, .int .i64 0, .int .i64 0] 57); have HB0 := eA (Below.refl w.heap.size w) (.cells #[.int .i64 0, .int .i64 0, .slice none 0 0, .int .u32 0, .int .i64 0, .string ⟨#[]⟩, .int .u64 0, .int .u64 0, .bool false, .int .i64 0, .int .i64 0] 57)
 have hs0 : (w.alloc (.cells #[.int .i64 0, .int .i64 0, .slice none 0 0, .int .u32 0, .int .i64 0, .string ⟨#[]⟩, .int .u64 0, .int .u64 0, .bool false, .int .i64 0, .int .i64 0] 57)).heap.size = w.heap.size + 1 := by simp
 generalize (w.alloc (.cells #[.int .i64 0, .int .i64 0, .slice none 0 0, .int .u32 0, .int .i64 0, .string ⟨#[]⟩, .int .u64 0, .int .u64 0, .bool false, .int .i64 0, .int .i64 0] 57)) = W0 at BR0 HB0 hs0 ⊢
 with_reducible refine (line_Words.calls s ws _ HW.out).mono ?_
 rintro e_ w1 ⟨v0, rfl, hR, hB⟩
 obtain ⟨A0, c0, rfl, hc0, hC⟩ := Kd.R_reads hR; have BR := Aside0.mk (blk_below BR0 hB); have HB := Aside0.mk (below_step HB0 hB)
 have hlt : w.heap.size < w1.heap.size := blk_lt BR.out
 have HC := Aside0.mk hC; have HCc := Aside0.mk hc0; have HMX := Aside0.mk (Kd.F_max (Kd.C_F Kd.heap_string hC))
 clear BR0 HB0 hs0 hR hB hC hc0; obtain ⟨n, hn⟩ : ∃ n, n = wt.length := ⟨_, rfl⟩; have hl : ws.length = n + 1 := by rw [hws, hn]; rfl
 rw [hl] at HC HCc HMX ⊢; have HCW := Aside0.mk (show Kd.C Kd.string w1 A0 (n + 1) (w0 :: wt) by rw [← hws]; exact HC.out); have HN := Aside0.mk hn; clear HC hws hl hn HW
 obtain ⟨ad, rfl, hcell⟩ := Kd.at_string HCW.out (0 : Int) (by omega) (by omega); have hx0 : w1.cell? ad = some (.string w0) := by simpa [Addr.add, rdOf] using hcell
 clear hcell; have hn0 : 0 < n + 1 := by omega
 go_wp2_with (first | fail)
 with_reducible refine (verb_Kind.calls w0 kd _ HK.out).mono ?_
 rintro e_ w2 ⟨rfl, hB⟩
 have BR2 := Aside0.mk (blk_below BR.out hB); have HB2 := Aside0.mk (below_step HB.out hB); have HF2 := Aside0.mk (Kd.F_below (Kd.C_F Kd.heap_string HCW.out) hB); have hlt2 : w.heap.size < w2.heap.size := blk_lt BR2.out; have hle2 : w1.heap.size ≤ w2.heap.size := hB.size
 clear hB BR HB hlt HCW hx0 hn0; obtain rfl : n = 2 := by have h1 := HN.out; have h2 := HLN.out; omega
 obtain ⟨A1, hcut0, hcutF⟩ := cutF (some ad) (3) c0 1 (by omega); have hcut : ∀ W : World, (Instr.slice 34 (.slice (some ad) (3) c0) (some (.int .i64 1)) none none).run Tryd.prog W = .ok (.slice A1 2 (c0 - 1)) W := fun W => by simpa using hcut0 W
 have HF3 := Aside0.mk (show Kd.F Kd.string w2 (fun b => b < w1.heap.size) A1 wt.length wt from hcutF w2 (fun b => b < w1.heap.size) (w0 :: wt) (by have h := HN.out; rw [List.length_cons, ← h]) HCc.out (by have h := HF2.out; have h2 := HN.out; have e : (w0 :: wt).length = 3 := (by rw [List.length_cons, ← h2]); rw [e]; exact h)); have HC3 : Aside0 (wt.length ≤ c0 - 1) := ⟨by have h1 := HCc.out; have h2 := HN.out; omega⟩; have hc1 := HCc.out; clear hcut0 hcutF
 go_wp2_with (first | fail)
 have hlw2 : line_words.f kd = some 2 := by unfold line_words.f; rw [HWD.out]
 have HW2 := Aside0.mk hlw2; clear hlw2
 have BRa := bA BR2.out (.cells #[.int .i64 kd, .slice none 0 0, .int .u32 0, .int .i64 0, .string ⟨#[]⟩, .int .u64 0, .int .u64 0, .bool false] 37); have HBa := eA HB2.out (.cells #[.int .i64 kd, .slice none 0 0, .int .u32 0, .int .i64 0, .string ⟨#[]⟩, .int .u64 0, .int .u64 0, .bool false] 37); have HFa := Kd.F_alloc HF3.out (.cells #[.int .i64 kd, .slice none 0 0, .int .u32 0, .int .i64 0, .string ⟨#[]⟩, .int .u64 0, .int .u64 0, .bool false] 37); have BCa := blk_new w2 (.cells #[.int .i64 kd, .slice none 0 0, .int .u32 0, .int .i64 0, .string ⟨#[]⟩, .int .u64 0, .int .u64 0, .bool false] 37)
 have hlta : w.heap.size ≠ w2.heap.size := by omega
 have hle : w1.heap.size ≤ w2.heap.size := hle2; have hltc : w.heap.size < w2.heap.size := hlt2
 generalize hcb : w2.heap.size = cb at BCa hlta hle hltc ⊢; generalize (w2.alloc (.cells #[.int .i64 kd, .slice none 0 0, .int .u32 0, .int .i64 0, .string ⟨#[]⟩, .int .u64 0, .int .u64 0, .bool false] 37)) = W3 at BRa HBa HFa BCa ⊢
 with_reducible refine (line_words.calls kd 2 _ HW2.out).mono ?_
 rintro e_ w3 ⟨rfl, ⟨nd, rfl⟩⟩
 have BR3 := Aside0.mk (bN BRa nd); have HB3 := Aside0.mk (eN HBa nd); have HF3' := Aside0.mk (Kd.F_drewN HFa nd); have BC3 := Aside0.mk (bN BCa nd)
 clear BRa HBa HFa BCa BR2 HB2 HF2 HF3 HW2 hlt2; generalize (W3.drewN nd) = w3 at BR3 HB3 HF3' BC3 ⊢; have hcl3 : cb < w3.heap.size := blk_lt BC3.out; have hrl3 : w.heap.size < w3.heap.size := blk_lt BR3.out
 obtain ⟨ad1, rfl, hcl⟩ := Kd.at_string (Kd.F_now HF3'.out) (1 : Int) (by omega) (by rw [HLN.out]; omega); have hxl : w3.cell? ⟨ad1.block, ad1.off + 1, none⟩ = some (.string (wt.getD 1 ByteArray.empty)) := by simpa [Addr.add, rdOf] using hcl
 clear hcl; rw [HLW] at hxl; have hf7 : w3.frozen? ⟨cb, 7, none⟩ = false := blk_frozen BC3.out 7; have hc7 : w3.cell? ⟨cb, 7, none⟩ = some (.bool false) := (blk_cell BC3.out 7).trans rfl
 have htk : ∀ W : World, (Instr.slice 34 (.slice (some ad1) 2 (c0 - 1)) none (some (.int .i64 1)) none).run Tryd.prog W = .ok (.slice (some ad1) 1 (c0 - 1)) W := fun W => by simpa using takeF (some ad1) 2 (c0 - 1) 1 (by omega) (by omega) W
 go_wp2_with (first | fail)
 have BR4 := Aside0.mk (blk_far (p := ⟨cb, 7, none⟩) BR3.out hlta (.bool true)); have BC4 := Aside0.mk (blk_set BC3.out 7 (.bool true)); have HB4 := Aside0.mk (eS (g := cb) (j := 7) (v := .bool true) HB3.out (by omega)); have HF4 := Aside0.mk (Kd.F_far (p := ⟨cb, 7, none⟩) (show Kd.F Kd.string w3 (fun b => b < w1.heap.size) (some ad1) (wt.take 1).length (wt.take 1) from Kd.F_take HF3'.out (by rw [HLN.out]; omega)) (fun b hb => by have h : b < w1.heap.size := hb; show b ≠ cb; omega) (.bool true))
 have HLL : Aside0 ((wt.take 1).length = 1) := ⟨by rw [List.length_take, HLN.out]; rfl⟩; rw [show ∀ (p0 p1 p2 p3 p4 p5 p6 p7 u : Value), (#[p0, p1, p2, p3, p4, p5, p6, p7] : Array Value).setIfInBounds 7 u = #[p0, p1, p2, p3, p4, p5, p6, u] from fun _ _ _ _ _ _ _ _ _ => rfl] at BC4; clear BR3 BC3 HB3 HF3' hxl hf7 hc7 htk hcl3 hrl3; generalize (w3.setCell ⟨cb, 7, none⟩ (.bool true)) = w4 at BR4 BC4 HB4 HF4 ⊢; generalize hls : wt.take 1 = ls at HF4 HLL; have HLS := Aside0.mk hls; clear hls
 obtain ⟨A4, hA4⟩ : ∃ A4, A4 = some ad1 := ⟨_, rfl⟩; rw [← hA4] at HF4 ⊢; clear hA4
 have HCX : Aside0 (1 ≤ c0 - 1) := ⟨by omega⟩; clear hc1
 with_reducible refine (verb_Stores.calls kd false _ HST.out).mono ?_
 rintro e_ w5 ⟨rfl, ⟨nd5, rfl⟩⟩
 have BR5 := bN BR4.out nd5; have HB5 := eN HB4.out nd5; have BC5 := bN BC4.out nd5; have HF5 := Kd.F_drewN HF4.out nd5
 clear BR4 HB4 BC4 HF4; generalize (w4.drewN nd5) = w5 at BR5 HB5 BC5 HF5 ⊢; have hlsv := HLS.out; rw [HLT.out] at hlsv; subst hlsv
 have HI0 := Rdr.new (ok := fun b => b < w1.heap.size) (W := w5) (A := A4) (c := c0 - 1) (f0 := [a]) 0 HCX.out HF5 (fun b hb => by have h : b < w1.heap.size := hb; have h2 := blk_lt BC5; omega); have BR6 := Aside0.mk (bA BR5 (.cells #[.slice A4 1 (c0 - 1), .int .i64 0] 71)); have BC6 := Aside0.mk (bA BC5 (.cells #[.slice A4 1 (c0 - 1), .int .i64 0] 71)); have HB6 := Aside0.mk (eA HB5 (.cells #[.slice A4 1 (c0 - 1), .int .i64 0] 71))
 have hcg : cb < w5.heap.size := blk_lt BC5
 have HI6 : Aside0 (Rdr (fun b => b < w1.heap.size) (w5.alloc (.cells #[.slice A4 1 (c0 - 1), .int .i64 0] 71)) w5.heap.size [a] 0) := ⟨HI0⟩; obtain ⟨g, hg⟩ : ∃ g, g = w5.heap.size := ⟨_, rfl⟩; clear BR5 HB5 BC5 HF5 HI0
 go_wp2_with (first | fail)
 rw [← hg] at HI6 hcg ⊢; clear hg
 generalize (w5.alloc (.cells #[.slice A4 1 (c0 - 1), .int .i64 0] 71)) = w6 at BR6 BC6 HB6 HI6 ⊢; have HGC : Aside0 (w.heap.size < cb ∧ cb < g ∧ w1.heap.size ≤ cb) := ⟨hltc, hcg, hle⟩; clear hcg
 with_reducible refine (Rdr.key (ok := fun b => b < w1.heap.size) k g a [] 0 kb w _ HI6.out HB6.out (by have := HGC.out; omega) HKY.out).mono ?_
 rintro e_ w7 ⟨rfl, hI, hB, hK⟩
 rw [HV1.out] at hI; have BC7 := Aside0.mk (blk_keep BC6.out hK (by have := HGC.out; omega)); have BR7 := Aside0.mk (blk_keep BR6.out hK (by have := HGC.out; omega)); have HB7 := Aside0.mk hB; have HI7 := Aside0.mk hI
 clear BC6 BR6 HB6 HI6 hI hB hK; obtain ⟨hc7, hf7⟩ := d8 BC7; have hl7 : cb < w7.heap.size := blk_lt BC7.out; have hg7 : g < w7.heap.size := HI7.out.lt
 go_wp2_with (first | fail)
 obtain ⟨ka, hka⟩ : ∃ ka, ka = w7.heap.size := ⟨_, rfl⟩; rw [← hka] at hl7 hg7 ⊢; have BC8 := bA (blk_set BC7.out 1 (.slice (some ⟨ka, 0, none⟩) 1 1)) (.cells #[.string a] 9); have BR8 := bA (blk_far (p := ⟨cb, 1, none⟩) BR7.out (by show w.heap.size ≠ cb; have := HGC.out; omega) (.slice (some ⟨ka, 0, none⟩) 1 1)) (.cells #[.string a] 9); have BK8 := blk_new (w7.setCell ⟨cb, 1, none⟩ (.slice (some ⟨ka, 0, none⟩) 1 1)) (.cells #[.string a] 9); rw [show (w7.setCell ⟨cb, 1, none⟩ (.slice (some ⟨ka, 0, none⟩) 1 1)).heap.size = ka by rw [hka]; simp] at BK8; have HI8 := (Rdr.far (p := ⟨cb, 1, none⟩) HI7.out (by show g ≠ cb; have := HGC.out; omega) (fun b hb => by show b ≠ cb; have h1 : b < w1.heap.size := hb; have := HGC.out; omega) (.slice (some ⟨ka, 0, none⟩) 1 1)).below (eA (Below.refl _ _) (.cells #[.string a] 9)); have HB8 := eA (eS (g := cb) (j := 1) (v := .slice (some ⟨ka, 0, none⟩) 1 1) HB7.out (by have := HGC.out; omega)) (.cells #[.string a] 9); rw [show ∀ (p0 p1 p2 p3 p4 p5 p6 p7 u : Value), (#[p0, p1, p2, p3, p4, p5, p6, p7] : Array Value).setIfInBounds 1 u = #[p0, u, p2, p3, p4, p5, p6, p7] from fun _ _ _ _ _ _ _ _ _ => rfl] at BC8; clear hf7 hc7 hka BC7 BR7 HB7 HI7; generalize ((w7.setCell ⟨cb, 1, none⟩ (.slice (some ⟨ka, 0, none⟩) 1 1)).alloc (.cells #[.string a] 9)) = w8 at BC8 BR8 BK8 HI8 HB8 ⊢; have HKA : Aside0 (g ≠ ka ∧ cb < ka) := ⟨by omega, hl7⟩; clear hl7 hg7
 have BC8 := Aside0.mk BC8; have BR8 := Aside0.mk BR8; have BK8 := Aside0.mk BK8; have HI8 := Aside0.mk HI8; have HB8 := Aside0.mk HB8
 have hD := HI8.out; have BRp := BR8.out; have HBp := HB8.out; have BKp := BK8.out
 by_cases hvd : v1 = 0
 ·skip
  rw [hvd] at hD
  with_reducible refine (Rdr.done0 g [] kd (some ⟨ka, 0, none⟩) 1 1 0 0 ⟨#[]⟩ 0 0 true _ hD).mono ?_
  rintro e_ w10 ⟨rfl, hB⟩
  have BR10 := Aside0.mk (blk_below BRp hB); have HB10 := Aside0.mk (below_step HBp hB); have BK10 := Aside0.mk (blk_below BKp hB); clear hB hD
  have HVD : Aside0 (v1 = 0) := ⟨hvd⟩; clear hvd; obtain ⟨hcy, hfy⟩ := d11 BR10; go_wp2; have N5 : Aside0 (w.heap.size ≤ w.heap.size) := ⟨Nat.le_refl _⟩; have N2 : Aside0 (ka ≠ w.heap.size) := ⟨by have h1 := HKA.out; have h2 := HGC.out; omega⟩; refine bodyPost_ret (results_cell_row rfl _ _ w.heap.size 57 #[.int .i64 1, .int .i64 kd, .slice (some ⟨ka, 0, none⟩) 1 1, .int .u32 0, .int .i64 0, .string ⟨#[]⟩, .int .u64 0, .int .u64 0, .bool true, .int .i64 0, .int .i64 0] (0, 0) _ rfl (bV BR10.out) Tryd.underlying57 rfl (by kernel_rfl)) rfl ?_
  refine ParsedPost.mk0 HVD.out rfl ?_ (bH HB10.out)
  refine Kd.R_mono (ok := fun k => k = ka) ?_ (fun _ _ => trivial)
  refine litR ?_ (by have h1 := HKA.out; have h2 := HGC.out; omega)
  exact bK BK10.out
 ·skip
  with_reducible refine (Rdr.done1 g [] v1 kd (some ⟨ka, 0, none⟩) 1 1 0 0 ⟨#[]⟩ 0 0 true _ hD (bne_iff_ne.2 hvd)).mono ?_
  rintro e_ w10 ⟨rfl, hB⟩
  have BR10 := Aside0.mk (blk_below BRp hB); have HB10 := Aside0.mk (below_step HBp hB); clear hB hD
  have HVD : Aside0 (¬ v1 = 0) := ⟨hvd⟩; clear hvd; obtain ⟨hcy, hfy⟩ := d11 BR10; go_wp2; have N5 : Aside0 (w.heap.size ≤ w.heap.size) := ⟨Nat.le_refl _⟩; refine bodyPost_ret (results_cell_row rfl _ _ w.heap.size 57 #[.int .i64 v1, .int .i64 0, .slice none 0 0, .int .u32 0, .int .i64 0, .string ⟨#[]⟩, .int .u64 0, .int .u64 0, .bool false, .int .i64 0, .int .i64 0] (0, 0) _ rfl (bV BR10.out) Tryd.underlying57 rfl (by kernel_rfl)) rfl ?_
  exact ParsedPost.mk1 HVD.out (bH HB10.out)
set_option maxHeartbeats 2000000 in
set_option maxRecDepth 100000 in
theorem line_Parse.delete_e (k : Nat) (s w0 : ByteArray) (wt : List ByteArray) (kd : Int) (a : ByteArray) (kb : Bool) (v1 : Int) (w : World) (hL : LdS w) (hs : ¬ 160 < s.size) (hw : line_Words.f s = some (w0 :: wt)) (hk : verb_Kind.f w0 = some kd) (hk0 : ¬ kd = 0) (hkd : ¬ kd ≤ 4) (hwd : line_words.v kd = 2) (hln : wt.length = 1) (hst : verb_Stores.f kd = some false) (hkk : kd = 11) (hlt_ : wt = [a]) (hky : fnv_Key.f k a = some kb) (hv1 : wrV (!kb) 4 0 = v1) :
  Calls Tryd.prog 22 #[.string s] w (ParsedPost w (dnV v1 kd [a] 0 0 false)) := by
 have b14 : (kd == 14) = false := beq_eq_false_iff_ne.2 (by omega); have b12 : (kd == 12) = false := beq_eq_false_iff_ne.2 (by omega); have b13 : (kd == 13) = false := beq_eq_false_iff_ne.2 (by omega)
 have HL := Aside0.mk hL; have HST := Aside0.mk hst; have HLT := Aside0.mk hlt_; clear hL hst hkk hlt_
 have HKY := Aside0.mk hky; have HV1 := Aside0.mk hv1; clear hky hv1
 have hk0 : (kd == 0) = false := beq_eq_false_iff_ne.2 hk0; have hk4 : decide (kd ≤ 4) = false := decide_eq_false hkd; have HWD := Aside0.mk hwd; clear hkd hwd
 have h160 : decide (160 < s.size) = false := decide_eq_false (by omega); have h161 : decide ((160 : Int) < (s.size : Int)) = false := decide_eq_false (by omega); clear hs; obtain ⟨ws, hws⟩ : ∃ ws : List ByteArray, ws = w0 :: wt := ⟨_, rfl⟩; rw [← hws] at hw
 have HK := Aside0.mk hk; clear hk
 have HW := Aside0.mk hw; clear hw
 go_enter Tryd.func22, Tryd.ntmps22
 go_wp2_with (first | fail)
 have BR0 := blk_new w (.cells #[.int .i64 0, .int .i64 0, .slice none 0 0, .int .u32 0, .int .i64 0, .string ⟨#[]⟩, .int .u64 0, .int .u64 0, .bool false, .int .i64 0, .int .i64 0] 57); have HB0 := eA (Below.refl w.heap.size w) (.cells #[.int .i64 0, .int .i64 0, .slice none 0 0, .int .u32 0, .int .i64 0, .string ⟨#[]⟩, .int .u64 0, .int .u64 0, .bool false, .int .i64 0, .int .i64 0] 57)
 have hs0 : (w.alloc (.cells #[.int .i64 0, .int .i64 0, .slice none 0 0, .int .u32 0, .int .i64 0, .string ⟨#[]⟩, .int .u64 0, .int .u64 0, .bool false, .int .i64 0, .int .i64 0] 57)).heap.size = w.heap.size + 1 := by simp
 generalize (w.alloc (.cells #[.int .i64 0, .int .i64 0, .slice none 0 0, .int .u32 0, .int .i64 0, .string ⟨#[]⟩, .int .u64 0, .int .u64 0, .bool false, .int .i64 0, .int .i64 0] 57)) = W0 at BR0 HB0 hs0 ⊢
 with_reducible refine (line_Words.calls s ws _ HW.out).mono ?_
 rintro e_ w1 ⟨v0, rfl, hR, hB⟩
 obtain ⟨A0, c0, rfl, hc0, hC⟩ := Kd.R_reads hR; have BR := Aside0.mk (blk_below BR0 hB); have HB := Aside0.mk (below_step HB0 hB)
 have hlt : w.heap.size < w1.heap.size := blk_lt BR.out
 have HC := Aside0.mk hC; have HCc := Aside0.mk hc0; have HMX := Aside0.mk (Kd.F_max (Kd.C_F Kd.heap_string hC))
 clear BR0 HB0 hs0 hR hB hC hc0; obtain ⟨n, hn⟩ : ∃ n, n = wt.length := ⟨_, rfl⟩; have hl : ws.length = n + 1 := by rw [hws, hn]; rfl
 rw [hl] at HC HCc HMX ⊢; have HCW := Aside0.mk (show Kd.C Kd.string w1 A0 (n + 1) (w0 :: wt) by rw [← hws]; exact HC.out); have HN := Aside0.mk hn; clear HC hws hl hn HW
 obtain ⟨ad, rfl, hcell⟩ := Kd.at_string HCW.out (0 : Int) (by omega) (by omega); have hx0 : w1.cell? ad = some (.string w0) := by simpa [Addr.add, rdOf] using hcell
 clear hcell; have hn0 : 0 < n + 1 := by omega
 go_wp2_with (first | fail)
 with_reducible refine (verb_Kind.calls w0 kd _ HK.out).mono ?_
 rintro e_ w2 ⟨rfl, hB⟩
 have BR2 := Aside0.mk (blk_below BR.out hB); have HB2 := Aside0.mk (below_step HB.out hB); have HF2 := Aside0.mk (Kd.F_below (Kd.C_F Kd.heap_string HCW.out) hB); have hlt2 : w.heap.size < w2.heap.size := blk_lt BR2.out; have hle2 : w1.heap.size ≤ w2.heap.size := hB.size
 clear hB BR HB hlt HCW hx0 hn0; obtain rfl : n = 1 := by have h1 := HN.out; omega
 have HLE := Aside0.mk hln; clear hln
 obtain ⟨A1, hcut0, hcutF⟩ := cutF (some ad) (2) c0 1 (by omega); have hcut : ∀ W : World, (Instr.slice 34 (.slice (some ad) (2) c0) (some (.int .i64 1)) none none).run Tryd.prog W = .ok (.slice A1 1 (c0 - 1)) W := fun W => by simpa using hcut0 W
 have HF3 := Aside0.mk (show Kd.F Kd.string w2 (fun b => b < w1.heap.size) A1 wt.length wt from hcutF w2 (fun b => b < w1.heap.size) (w0 :: wt) (by have h := HN.out; rw [List.length_cons, ← h]) HCc.out (by have h := HF2.out; have h2 := HN.out; have e : (w0 :: wt).length = 2 := (by rw [List.length_cons, ← h2]); rw [e]; exact h)); have HC3 : Aside0 (wt.length ≤ c0 - 1) := ⟨by have h1 := HCc.out; have h2 := HN.out; omega⟩; have hc1 := HCc.out; clear hcut0 hcutF
 go_wp2_with (first | fail)
 have hlw2 : line_words.f kd = some 2 := by unfold line_words.f; rw [HWD.out]
 have HW2 := Aside0.mk hlw2; clear hlw2
 have BRa := bA BR2.out (.cells #[.int .i64 kd, .slice none 0 0, .int .u32 0, .int .i64 0, .string ⟨#[]⟩, .int .u64 0, .int .u64 0, .bool false] 37); have HBa := eA HB2.out (.cells #[.int .i64 kd, .slice none 0 0, .int .u32 0, .int .i64 0, .string ⟨#[]⟩, .int .u64 0, .int .u64 0, .bool false] 37); have HFa := Kd.F_alloc HF3.out (.cells #[.int .i64 kd, .slice none 0 0, .int .u32 0, .int .i64 0, .string ⟨#[]⟩, .int .u64 0, .int .u64 0, .bool false] 37); have BCa := blk_new w2 (.cells #[.int .i64 kd, .slice none 0 0, .int .u32 0, .int .i64 0, .string ⟨#[]⟩, .int .u64 0, .int .u64 0, .bool false] 37)
 have hlta : w.heap.size ≠ w2.heap.size := by omega
 have hle : w1.heap.size ≤ w2.heap.size := hle2; have hltc : w.heap.size < w2.heap.size := hlt2
 generalize hcb : w2.heap.size = cb at BCa hlta hle hltc ⊢; generalize (w2.alloc (.cells #[.int .i64 kd, .slice none 0 0, .int .u32 0, .int .i64 0, .string ⟨#[]⟩, .int .u64 0, .int .u64 0, .bool false] 37)) = W3 at BRa HBa HFa BCa ⊢
 with_reducible refine (line_words.calls kd 2 _ HW2.out).mono ?_
 rintro e_ w3 ⟨rfl, ⟨nd, rfl⟩⟩
 have BR3 := Aside0.mk (bN BRa nd); have HB3 := Aside0.mk (eN HBa nd); have HF3' := Aside0.mk (Kd.F_drewN HFa nd); have BC3 := Aside0.mk (bN BCa nd)
 clear BRa HBa HFa BCa BR2 HB2 HF2 HF3 HW2 hlt2; generalize (W3.drewN nd) = w3 at BR3 HB3 HF3' BC3 ⊢; have hcl3 : cb < w3.heap.size := blk_lt BC3.out; have hrl3 : w.heap.size < w3.heap.size := blk_lt BR3.out
 go_wp2_with (first | fail)
 have BR4 := BR3; have BC4 := BC3; have HB4 := HB3; have HF4 := HF3'; have HLL := HLE; clear BR3 BC3 HB3 HF3' hcl3 hrl3
 generalize w3 = w4 at BR4 BC4 HB4 HF4 ⊢; obtain ⟨A4, hA4⟩ : ∃ A4, A4 = A1 := ⟨_, rfl⟩; rw [← hA4] at HF4 ⊢; clear hA4 hcut
 generalize hls : wt = ls at HF4 HLL; have HLS := Aside0.mk hls; clear hls
 have HCX : Aside0 (1 ≤ c0 - 1) := ⟨by omega⟩; clear hc1
 with_reducible refine (verb_Stores.calls kd false _ HST.out).mono ?_
 rintro e_ w5 ⟨rfl, ⟨nd5, rfl⟩⟩
 have BR5 := bN BR4.out nd5; have HB5 := eN HB4.out nd5; have BC5 := bN BC4.out nd5; have HF5 := Kd.F_drewN HF4.out nd5
 clear BR4 HB4 BC4 HF4; generalize (w4.drewN nd5) = w5 at BR5 HB5 BC5 HF5 ⊢; have hlsv := HLS.out; rw [HLT.out] at hlsv; subst hlsv
 have HI0 := Rdr.new (ok := fun b => b < w1.heap.size) (W := w5) (A := A4) (c := c0 - 1) (f0 := [a]) 0 HCX.out HF5 (fun b hb => by have h : b < w1.heap.size := hb; have h2 := blk_lt BC5; omega); have BR6 := Aside0.mk (bA BR5 (.cells #[.slice A4 1 (c0 - 1), .int .i64 0] 71)); have BC6 := Aside0.mk (bA BC5 (.cells #[.slice A4 1 (c0 - 1), .int .i64 0] 71)); have HB6 := Aside0.mk (eA HB5 (.cells #[.slice A4 1 (c0 - 1), .int .i64 0] 71))
 have hcg : cb < w5.heap.size := blk_lt BC5
 have HI6 : Aside0 (Rdr (fun b => b < w1.heap.size) (w5.alloc (.cells #[.slice A4 1 (c0 - 1), .int .i64 0] 71)) w5.heap.size [a] 0) := ⟨HI0⟩; obtain ⟨g, hg⟩ : ∃ g, g = w5.heap.size := ⟨_, rfl⟩; clear BR5 HB5 BC5 HF5 HI0
 go_wp2_with (first | fail)
 rw [← hg] at HI6 hcg ⊢; clear hg
 generalize (w5.alloc (.cells #[.slice A4 1 (c0 - 1), .int .i64 0] 71)) = w6 at BR6 BC6 HB6 HI6 ⊢; have HGC : Aside0 (w.heap.size < cb ∧ cb < g ∧ w1.heap.size ≤ cb) := ⟨hltc, hcg, hle⟩; clear hcg
 with_reducible refine (Rdr.key (ok := fun b => b < w1.heap.size) k g a [] 0 kb w _ HI6.out HB6.out (by have := HGC.out; omega) HKY.out).mono ?_
 rintro e_ w7 ⟨rfl, hI, hB, hK⟩
 rw [HV1.out] at hI; have BC7 := Aside0.mk (blk_keep BC6.out hK (by have := HGC.out; omega)); have BR7 := Aside0.mk (blk_keep BR6.out hK (by have := HGC.out; omega)); have HB7 := Aside0.mk hB; have HI7 := Aside0.mk hI
 clear BC6 BR6 HB6 HI6 hI hB hK; obtain ⟨hc7, hf7⟩ := d8 BC7; have hl7 : cb < w7.heap.size := blk_lt BC7.out; have hg7 : g < w7.heap.size := HI7.out.lt
 go_wp2_with (first | fail)
 obtain ⟨ka, hka⟩ : ∃ ka, ka = w7.heap.size := ⟨_, rfl⟩; rw [← hka] at hl7 hg7 ⊢; have BC8 := bA (blk_set BC7.out 1 (.slice (some ⟨ka, 0, none⟩) 1 1)) (.cells #[.string a] 9); have BR8 := bA (blk_far (p := ⟨cb, 1, none⟩) BR7.out (by show w.heap.size ≠ cb; have := HGC.out; omega) (.slice (some ⟨ka, 0, none⟩) 1 1)) (.cells #[.string a] 9); have BK8 := blk_new (w7.setCell ⟨cb, 1, none⟩ (.slice (some ⟨ka, 0, none⟩) 1 1)) (.cells #[.string a] 9); rw [show (w7.setCell ⟨cb, 1, none⟩ (.slice (some ⟨ka, 0, none⟩) 1 1)).heap.size = ka by rw [hka]; simp] at BK8; have HI8 := (Rdr.far (p := ⟨cb, 1, none⟩) HI7.out (by show g ≠ cb; have := HGC.out; omega) (fun b hb => by show b ≠ cb; have h1 : b < w1.heap.size := hb; have := HGC.out; omega) (.slice (some ⟨ka, 0, none⟩) 1 1)).below (eA (Below.refl _ _) (.cells #[.string a] 9)); have HB8 := eA (eS (g := cb) (j := 1) (v := .slice (some ⟨ka, 0, none⟩) 1 1) HB7.out (by have := HGC.out; omega)) (.cells #[.string a] 9); rw [show ∀ (p0 p1 p2 p3 p4 p5 p6 p7 u : Value), (#[p0, p1, p2, p3, p4, p5, p6, p7] : Array Value).setIfInBounds 1 u = #[p0, u, p2, p3, p4, p5, p6, p7] from fun _ _ _ _ _ _ _ _ _ => rfl] at BC8; clear hf7 hc7 hka BC7 BR7 HB7 HI7; generalize ((w7.setCell ⟨cb, 1, none⟩ (.slice (some ⟨ka, 0, none⟩) 1 1)).alloc (.cells #[.string a] 9)) = w8 at BC8 BR8 BK8 HI8 HB8 ⊢; have HKA : Aside0 (g ≠ ka ∧ cb < ka) := ⟨by omega, hl7⟩; clear hl7 hg7
 have BC8 := Aside0.mk BC8; have BR8 := Aside0.mk BR8; have BK8 := Aside0.mk BK8; have HI8 := Aside0.mk HI8; have HB8 := Aside0.mk HB8
 have hD := HI8.out; have BRp := BR8.out; have HBp := HB8.out; have BKp := BK8.out
 by_cases hvd : v1 = 0
 ·skip
  rw [hvd] at hD
  with_reducible refine (Rdr.done0 g [] kd (some ⟨ka, 0, none⟩) 1 1 0 0 ⟨#[]⟩ 0 0 false _ hD).mono ?_
  rintro e_ w10 ⟨rfl, hB⟩
  have BR10 := Aside0.mk (blk_below BRp hB); have HB10 := Aside0.mk (below_step HBp hB); have BK10 := Aside0.mk (blk_below BKp hB); clear hB hD
  have HVD : Aside0 (v1 = 0) := ⟨hvd⟩; clear hvd; obtain ⟨hcy, hfy⟩ := d11 BR10; go_wp2; have N5 : Aside0 (w.heap.size ≤ w.heap.size) := ⟨Nat.le_refl _⟩; have N2 : Aside0 (ka ≠ w.heap.size) := ⟨by have h1 := HKA.out; have h2 := HGC.out; omega⟩; refine bodyPost_ret (results_cell_row rfl _ _ w.heap.size 57 #[.int .i64 1, .int .i64 kd, .slice (some ⟨ka, 0, none⟩) 1 1, .int .u32 0, .int .i64 0, .string ⟨#[]⟩, .int .u64 0, .int .u64 0, .bool false, .int .i64 0, .int .i64 0] (0, 0) _ rfl (bV BR10.out) Tryd.underlying57 rfl (by kernel_rfl)) rfl ?_
  refine ParsedPost.mk0 HVD.out rfl ?_ (bH HB10.out)
  refine Kd.R_mono (ok := fun k => k = ka) ?_ (fun _ _ => trivial)
  refine litR ?_ (by have h1 := HKA.out; have h2 := HGC.out; omega)
  exact bK BK10.out
 ·skip
  with_reducible refine (Rdr.done1 g [] v1 kd (some ⟨ka, 0, none⟩) 1 1 0 0 ⟨#[]⟩ 0 0 false _ hD (bne_iff_ne.2 hvd)).mono ?_
  rintro e_ w10 ⟨rfl, hB⟩
  have BR10 := Aside0.mk (blk_below BRp hB); have HB10 := Aside0.mk (below_step HBp hB); clear hB hD
  have HVD : Aside0 (¬ v1 = 0) := ⟨hvd⟩; clear hvd; obtain ⟨hcy, hfy⟩ := d11 BR10; go_wp2; have N5 : Aside0 (w.heap.size ≤ w.heap.size) := ⟨Nat.le_refl _⟩; refine bodyPost_ret (results_cell_row rfl _ _ w.heap.size 57 #[.int .i64 v1, .int .i64 0, .slice none 0 0, .int .u32 0, .int .i64 0, .string ⟨#[]⟩, .int .u64 0, .int .u64 0, .bool false, .int .i64 0, .int .i64 0] (0, 0) _ rfl (bV BR10.out) Tryd.underlying57 rfl (by kernel_rfl)) rfl ?_
  exact ParsedPost.mk1 HVD.out (bH HB10.out)
set_option maxHeartbeats 2000000 in
set_option maxRecDepth 100000 in
theorem line_Parse.touch_q (k : Nat) (s w0 : ByteArray) (wt : List ByteArray) (kd : Int) (a x : ByteArray) (kb : Bool) (v1 xv xe v2 : Int) (w : World) (hL : LdS w) (hs : ¬ 160 < s.size) (hw : line_Words.f s = some (w0 :: wt)) (hk : verb_Kind.f w0 = some kd) (hk0 : ¬ kd = 0) (hkd : ¬ kd ≤ 4) (hwd : line_words.v kd = 3) (hln : wt.length = 3) (HLW : wt.getD 2 ByteArray.empty = (⟨#[110, 111, 114, 101, 112, 108, 121]⟩ : ByteArray)) (hst : verb_Stores.f kd = some false) (hkk : kd = 14) (hlt_ : wt.take 2 = [a, x]) (hky : fnv_Key.f k a = some kb) (hv1 : wrV (!kb) 4 0 = v1) (hxx : digits_Signed.f k x = some (xv, xe)) (hv2 : wrV (xe != 0) 7 v1 = v2) :
  Calls Tryd.prog 22 #[.string s] w (ParsedPost w (dnV v2 kd [a] xv 0 true)) := by
 have b14 : (kd == 14) = true := beq_iff_eq.2 hkk; have b12 : (kd == 12) = false := beq_eq_false_iff_ne.2 (by omega); have b13 : (kd == 13) = false := beq_eq_false_iff_ne.2 (by omega)
 have HL := Aside0.mk hL; have HST := Aside0.mk hst; have HLT := Aside0.mk hlt_; clear hL hst hkk hlt_
 have HKY := Aside0.mk hky; have HV1 := Aside0.mk hv1; clear hky hv1
 have HXX := Aside0.mk hxx; have HV2 := Aside0.mk hv2; clear hxx hv2
 have hk0 : (kd == 0) = false := beq_eq_false_iff_ne.2 hk0; have hk4 : decide (kd ≤ 4) = false := decide_eq_false hkd; have HWD := Aside0.mk hwd; clear hkd hwd
 have HLN := Aside0.mk hln; clear hln
 have h160 : decide (160 < s.size) = false := decide_eq_false (by omega); have h161 : decide ((160 : Int) < (s.size : Int)) = false := decide_eq_false (by omega); clear hs; obtain ⟨ws, hws⟩ : ∃ ws : List ByteArray, ws = w0 :: wt := ⟨_, rfl⟩; rw [← hws] at hw
 have HK := Aside0.mk hk; clear hk
 have HW := Aside0.mk hw; clear hw
 go_enter Tryd.func22, Tryd.ntmps22
 go_wp2_with (first | fail)
 have BR0 := blk_new w (.cells #[.int .i64 0, .int .i64 0, .slice none 0 0, .int .u32 0, .int .i64 0, .string ⟨#[]⟩, .int .u64 0, .int .u64 0, .bool false, .int .i64 0, .int .i64 0] 57); have HB0 := eA (Below.refl w.heap.size w) (.cells #[.int .i64 0, .int .i64 0, .slice none 0 0, .int .u32 0, .int .i64 0, .string ⟨#[]⟩, .int .u64 0, .int .u64 0, .bool false, .int .i64 0, .int .i64 0] 57)
 have hs0 : (w.alloc (.cells #[.int .i64 0, .int .i64 0, .slice none 0 0, .int .u32 0, .int .i64 0, .string ⟨#[]⟩, .int .u64 0, .int .u64 0, .bool false, .int .i64 0, .int .i64 0] 57)).heap.size = w.heap.size + 1 := by simp
 generalize (w.alloc (.cells #[.int .i64 0, .int .i64 0, .slice none 0 0, .int .u32 0, .int .i64 0, .string ⟨#[]⟩, .int .u64 0, .int .u64 0, .bool false, .int .i64 0, .int .i64 0] 57)) = W0 at BR0 HB0 hs0 ⊢
 with_reducible refine (line_Words.calls s ws _ HW.out).mono ?_
 rintro e_ w1 ⟨v0, rfl, hR, hB⟩
 obtain ⟨A0, c0, rfl, hc0, hC⟩ := Kd.R_reads hR; have BR := Aside0.mk (blk_below BR0 hB); have HB := Aside0.mk (below_step HB0 hB)
 have hlt : w.heap.size < w1.heap.size := blk_lt BR.out
 have HC := Aside0.mk hC; have HCc := Aside0.mk hc0; have HMX := Aside0.mk (Kd.F_max (Kd.C_F Kd.heap_string hC))
 clear BR0 HB0 hs0 hR hB hC hc0; obtain ⟨n, hn⟩ : ∃ n, n = wt.length := ⟨_, rfl⟩; have hl : ws.length = n + 1 := by rw [hws, hn]; rfl
 rw [hl] at HC HCc HMX ⊢; have HCW := Aside0.mk (show Kd.C Kd.string w1 A0 (n + 1) (w0 :: wt) by rw [← hws]; exact HC.out); have HN := Aside0.mk hn; clear HC hws hl hn HW
 obtain ⟨ad, rfl, hcell⟩ := Kd.at_string HCW.out (0 : Int) (by omega) (by omega); have hx0 : w1.cell? ad = some (.string w0) := by simpa [Addr.add, rdOf] using hcell
 clear hcell; have hn0 : 0 < n + 1 := by omega
 go_wp2_with (first | fail)
 with_reducible refine (verb_Kind.calls w0 kd _ HK.out).mono ?_
 rintro e_ w2 ⟨rfl, hB⟩
 have BR2 := Aside0.mk (blk_below BR.out hB); have HB2 := Aside0.mk (below_step HB.out hB); have HF2 := Aside0.mk (Kd.F_below (Kd.C_F Kd.heap_string HCW.out) hB); have hlt2 : w.heap.size < w2.heap.size := blk_lt BR2.out; have hle2 : w1.heap.size ≤ w2.heap.size := hB.size
 clear hB BR HB hlt HCW hx0 hn0; obtain rfl : n = 3 := by have h1 := HN.out; have h2 := HLN.out; omega
 obtain ⟨A1, hcut0, hcutF⟩ := cutF (some ad) (4) c0 1 (by omega); have hcut : ∀ W : World, (Instr.slice 34 (.slice (some ad) (4) c0) (some (.int .i64 1)) none none).run Tryd.prog W = .ok (.slice A1 3 (c0 - 1)) W := fun W => by simpa using hcut0 W
 have HF3 := Aside0.mk (show Kd.F Kd.string w2 (fun b => b < w1.heap.size) A1 wt.length wt from hcutF w2 (fun b => b < w1.heap.size) (w0 :: wt) (by have h := HN.out; rw [List.length_cons, ← h]) HCc.out (by have h := HF2.out; have h2 := HN.out; have e : (w0 :: wt).length = 4 := (by rw [List.length_cons, ← h2]); rw [e]; exact h)); have HC3 : Aside0 (wt.length ≤ c0 - 1) := ⟨by have h1 := HCc.out; have h2 := HN.out; omega⟩; have hc1 := HCc.out; clear hcut0 hcutF
 go_wp2_with (first | fail)
 have hlw2 : line_words.f kd = some 3 := by unfold line_words.f; rw [HWD.out]
 have HW2 := Aside0.mk hlw2; clear hlw2
 have BRa := bA BR2.out (.cells #[.int .i64 kd, .slice none 0 0, .int .u32 0, .int .i64 0, .string ⟨#[]⟩, .int .u64 0, .int .u64 0, .bool false] 37); have HBa := eA HB2.out (.cells #[.int .i64 kd, .slice none 0 0, .int .u32 0, .int .i64 0, .string ⟨#[]⟩, .int .u64 0, .int .u64 0, .bool false] 37); have HFa := Kd.F_alloc HF3.out (.cells #[.int .i64 kd, .slice none 0 0, .int .u32 0, .int .i64 0, .string ⟨#[]⟩, .int .u64 0, .int .u64 0, .bool false] 37); have BCa := blk_new w2 (.cells #[.int .i64 kd, .slice none 0 0, .int .u32 0, .int .i64 0, .string ⟨#[]⟩, .int .u64 0, .int .u64 0, .bool false] 37)
 have hlta : w.heap.size ≠ w2.heap.size := by omega
 have hle : w1.heap.size ≤ w2.heap.size := hle2; have hltc : w.heap.size < w2.heap.size := hlt2
 generalize hcb : w2.heap.size = cb at BCa hlta hle hltc ⊢; generalize (w2.alloc (.cells #[.int .i64 kd, .slice none 0 0, .int .u32 0, .int .i64 0, .string ⟨#[]⟩, .int .u64 0, .int .u64 0, .bool false] 37)) = W3 at BRa HBa HFa BCa ⊢
 with_reducible refine (line_words.calls kd 3 _ HW2.out).mono ?_
 rintro e_ w3 ⟨rfl, ⟨nd, rfl⟩⟩
 have BR3 := Aside0.mk (bN BRa nd); have HB3 := Aside0.mk (eN HBa nd); have HF3' := Aside0.mk (Kd.F_drewN HFa nd); have BC3 := Aside0.mk (bN BCa nd)
 clear BRa HBa HFa BCa BR2 HB2 HF2 HF3 HW2 hlt2; generalize (W3.drewN nd) = w3 at BR3 HB3 HF3' BC3 ⊢; have hcl3 : cb < w3.heap.size := blk_lt BC3.out; have hrl3 : w.heap.size < w3.heap.size := blk_lt BR3.out
 obtain ⟨ad1, rfl, hcl⟩ := Kd.at_string (Kd.F_now HF3'.out) (2 : Int) (by omega) (by rw [HLN.out]; omega); have hxl : w3.cell? ⟨ad1.block, ad1.off + 2, none⟩ = some (.string (wt.getD 2 ByteArray.empty)) := by simpa [Addr.add, rdOf] using hcl
 clear hcl; rw [HLW] at hxl; have hf7 : w3.frozen? ⟨cb, 7, none⟩ = false := blk_frozen BC3.out 7; have hc7 : w3.cell? ⟨cb, 7, none⟩ = some (.bool false) := (blk_cell BC3.out 7).trans rfl
 have htk : ∀ W : World, (Instr.slice 34 (.slice (some ad1) 3 (c0 - 1)) none (some (.int .i64 2)) none).run Tryd.prog W = .ok (.slice (some ad1) 2 (c0 - 1)) W := fun W => by simpa using takeF (some ad1) 3 (c0 - 1) 2 (by omega) (by omega) W
 go_wp2_with (first | fail)
 have BR4 := Aside0.mk (blk_far (p := ⟨cb, 7, none⟩) BR3.out hlta (.bool true)); have BC4 := Aside0.mk (blk_set BC3.out 7 (.bool true)); have HB4 := Aside0.mk (eS (g := cb) (j := 7) (v := .bool true) HB3.out (by omega)); have HF4 := Aside0.mk (Kd.F_far (p := ⟨cb, 7, none⟩) (show Kd.F Kd.string w3 (fun b => b < w1.heap.size) (some ad1) (wt.take 2).length (wt.take 2) from Kd.F_take HF3'.out (by rw [HLN.out]; omega)) (fun b hb => by have h : b < w1.heap.size := hb; show b ≠ cb; omega) (.bool true))
 have HLL : Aside0 ((wt.take 2).length = 2) := ⟨by rw [List.length_take, HLN.out]; rfl⟩; rw [show ∀ (p0 p1 p2 p3 p4 p5 p6 p7 u : Value), (#[p0, p1, p2, p3, p4, p5, p6, p7] : Array Value).setIfInBounds 7 u = #[p0, p1, p2, p3, p4, p5, p6, u] from fun _ _ _ _ _ _ _ _ _ => rfl] at BC4; clear BR3 BC3 HB3 HF3' hxl hf7 hc7 htk hcl3 hrl3; generalize (w3.setCell ⟨cb, 7, none⟩ (.bool true)) = w4 at BR4 BC4 HB4 HF4 ⊢; generalize hls : wt.take 2 = ls at HF4 HLL; have HLS := Aside0.mk hls; clear hls
 obtain ⟨A4, hA4⟩ : ∃ A4, A4 = some ad1 := ⟨_, rfl⟩; rw [← hA4] at HF4 ⊢; clear hA4
 have HCX : Aside0 (2 ≤ c0 - 1) := ⟨by omega⟩; clear hc1
 with_reducible refine (verb_Stores.calls kd false _ HST.out).mono ?_
 rintro e_ w5 ⟨rfl, ⟨nd5, rfl⟩⟩
 have BR5 := bN BR4.out nd5; have HB5 := eN HB4.out nd5; have BC5 := bN BC4.out nd5; have HF5 := Kd.F_drewN HF4.out nd5
 clear BR4 HB4 BC4 HF4; generalize (w4.drewN nd5) = w5 at BR5 HB5 BC5 HF5 ⊢; have hlsv := HLS.out; rw [HLT.out] at hlsv; subst hlsv
 have HI0 := Rdr.new (ok := fun b => b < w1.heap.size) (W := w5) (A := A4) (c := c0 - 1) (f0 := [a, x]) 0 HCX.out HF5 (fun b hb => by have h : b < w1.heap.size := hb; have h2 := blk_lt BC5; omega); have BR6 := Aside0.mk (bA BR5 (.cells #[.slice A4 2 (c0 - 1), .int .i64 0] 71)); have BC6 := Aside0.mk (bA BC5 (.cells #[.slice A4 2 (c0 - 1), .int .i64 0] 71)); have HB6 := Aside0.mk (eA HB5 (.cells #[.slice A4 2 (c0 - 1), .int .i64 0] 71))
 have hcg : cb < w5.heap.size := blk_lt BC5
 have HI6 : Aside0 (Rdr (fun b => b < w1.heap.size) (w5.alloc (.cells #[.slice A4 2 (c0 - 1), .int .i64 0] 71)) w5.heap.size [a, x] 0) := ⟨HI0⟩; obtain ⟨g, hg⟩ : ∃ g, g = w5.heap.size := ⟨_, rfl⟩; clear BR5 HB5 BC5 HF5 HI0
 go_wp2_with (first | fail)
 rw [← hg] at HI6 hcg ⊢; clear hg
 generalize (w5.alloc (.cells #[.slice A4 2 (c0 - 1), .int .i64 0] 71)) = w6 at BR6 BC6 HB6 HI6 ⊢; have HGC : Aside0 (w.heap.size < cb ∧ cb < g ∧ w1.heap.size ≤ cb) := ⟨hltc, hcg, hle⟩; clear hcg
 with_reducible refine (Rdr.key (ok := fun b => b < w1.heap.size) k g a [x] 0 kb w _ HI6.out HB6.out (by have := HGC.out; omega) HKY.out).mono ?_
 rintro e_ w7 ⟨rfl, hI, hB, hK⟩
 rw [HV1.out] at hI; have BC7 := Aside0.mk (blk_keep BC6.out hK (by have := HGC.out; omega)); have BR7 := Aside0.mk (blk_keep BR6.out hK (by have := HGC.out; omega)); have HB7 := Aside0.mk hB; have HI7 := Aside0.mk hI
 clear BC6 BR6 HB6 HI6 hI hB hK; obtain ⟨hc7, hf7⟩ := d8 BC7; have hl7 : cb < w7.heap.size := blk_lt BC7.out; have hg7 : g < w7.heap.size := HI7.out.lt
 go_wp2_with (first | fail)
 obtain ⟨ka, hka⟩ : ∃ ka, ka = w7.heap.size := ⟨_, rfl⟩; rw [← hka] at hl7 hg7 ⊢; have BC8 := bA (blk_set BC7.out 1 (.slice (some ⟨ka, 0, none⟩) 1 1)) (.cells #[.string a] 9); have BR8 := bA (blk_far (p := ⟨cb, 1, none⟩) BR7.out (by show w.heap.size ≠ cb; have := HGC.out; omega) (.slice (some ⟨ka, 0, none⟩) 1 1)) (.cells #[.string a] 9); have BK8 := blk_new (w7.setCell ⟨cb, 1, none⟩ (.slice (some ⟨ka, 0, none⟩) 1 1)) (.cells #[.string a] 9); rw [show (w7.setCell ⟨cb, 1, none⟩ (.slice (some ⟨ka, 0, none⟩) 1 1)).heap.size = ka by rw [hka]; simp] at BK8; have HI8 := (Rdr.far (p := ⟨cb, 1, none⟩) HI7.out (by show g ≠ cb; have := HGC.out; omega) (fun b hb => by show b ≠ cb; have h1 : b < w1.heap.size := hb; have := HGC.out; omega) (.slice (some ⟨ka, 0, none⟩) 1 1)).below (eA (Below.refl _ _) (.cells #[.string a] 9)); have HB8 := eA (eS (g := cb) (j := 1) (v := .slice (some ⟨ka, 0, none⟩) 1 1) HB7.out (by have := HGC.out; omega)) (.cells #[.string a] 9); rw [show ∀ (p0 p1 p2 p3 p4 p5 p6 p7 u : Value), (#[p0, p1, p2, p3, p4, p5, p6, p7] : Array Value).setIfInBounds 1 u = #[p0, u, p2, p3, p4, p5, p6, p7] from fun _ _ _ _ _ _ _ _ _ => rfl] at BC8; clear hf7 hc7 hka BC7 BR7 HB7 HI7; generalize ((w7.setCell ⟨cb, 1, none⟩ (.slice (some ⟨ka, 0, none⟩) 1 1)).alloc (.cells #[.string a] 9)) = w8 at BC8 BR8 BK8 HI8 HB8 ⊢; have HKA : Aside0 (g ≠ ka ∧ cb < ka) := ⟨by omega, hl7⟩; clear hl7 hg7
 have BC8 := Aside0.mk BC8; have BR8 := Aside0.mk BR8; have BK8 := Aside0.mk BK8; have HI8 := Aside0.mk HI8; have HB8 := Aside0.mk HB8
 with_reducible refine (Rdr.signed (ok := fun b => b < w1.heap.size) k g x [] v1 xv xe w _ HI8.out HB8.out (by have := HGC.out; omega) HL.out HXX.out).mono ?_
 rintro e_ w9 ⟨rfl, hI, hB, hK⟩
 rw [HV2.out] at hI; have BC9 := Aside0.mk (blk_keep BC8.out hK (by have := HGC.out; omega)); have BR9 := Aside0.mk (blk_keep BR8.out hK (by have := HGC.out; omega)); have BK9 := Aside0.mk (blk_keep BK8.out hK (fun e_ => HKA.out.1 e_.symm)); have HB9 := Aside0.mk hB; have HI9 := Aside0.mk hI
 clear BC8 BR8 BK8 HB8 HI8 hI hB hK; obtain ⟨hcz, hfz⟩ := d8 BC9
 go_wp2_with (first | fail)
 have hD := HI9.out.far (p := ⟨cb, 3, none⟩) (by show g ≠ cb; have := HGC.out; omega) (fun b hb => by show b ≠ cb; have h1 : b < w1.heap.size := hb; have := HGC.out; omega) (.int .i64 xv); have BRp := blk_far (p := ⟨cb, 3, none⟩) BR9.out (by show w.heap.size ≠ cb; have := HGC.out; omega) (.int .i64 xv); have BKp := blk_far (p := ⟨cb, 3, none⟩) BK9.out (by show ka ≠ cb; have := HKA.out; omega) (.int .i64 xv); have HBp := eS (g := cb) (j := 3) (v := .int .i64 xv) HB9.out (by have := HGC.out; omega); clear hcz hfz
 by_cases hvd : v2 = 0
 ·skip
  rw [hvd] at hD
  with_reducible refine (Rdr.done0 g [] kd (some ⟨ka, 0, none⟩) 1 1 0 xv ⟨#[]⟩ 0 0 true _ hD).mono ?_
  rintro e_ w10 ⟨rfl, hB⟩
  have BR10 := Aside0.mk (blk_below BRp hB); have HB10 := Aside0.mk (below_step HBp hB); have BK10 := Aside0.mk (blk_below BKp hB); clear hB hD
  have HVD : Aside0 (v2 = 0) := ⟨hvd⟩; clear hvd; obtain ⟨hcy, hfy⟩ := d11 BR10; go_wp2; have N5 : Aside0 (w.heap.size ≤ w.heap.size) := ⟨Nat.le_refl _⟩; have N2 : Aside0 (ka ≠ w.heap.size) := ⟨by have h1 := HKA.out; have h2 := HGC.out; omega⟩; refine bodyPost_ret (results_cell_row rfl _ _ w.heap.size 57 #[.int .i64 1, .int .i64 kd, .slice (some ⟨ka, 0, none⟩) 1 1, .int .u32 0, .int .i64 xv, .string ⟨#[]⟩, .int .u64 0, .int .u64 0, .bool true, .int .i64 0, .int .i64 0] (0, 0) _ rfl (bV BR10.out) Tryd.underlying57 rfl (by kernel_rfl)) rfl ?_
  refine ParsedPost.mk0 HVD.out rfl ?_ (bH HB10.out)
  refine Kd.R_mono (ok := fun k => k = ka) ?_ (fun _ _ => trivial)
  refine litR ?_ (by have h1 := HKA.out; have h2 := HGC.out; omega)
  exact bK BK10.out
 ·skip
  with_reducible refine (Rdr.done1 g [] v2 kd (some ⟨ka, 0, none⟩) 1 1 0 xv ⟨#[]⟩ 0 0 true _ hD (bne_iff_ne.2 hvd)).mono ?_
  rintro e_ w10 ⟨rfl, hB⟩
  have BR10 := Aside0.mk (blk_below BRp hB); have HB10 := Aside0.mk (below_step HBp hB); clear hB hD
  have HVD : Aside0 (¬ v2 = 0) := ⟨hvd⟩; clear hvd; obtain ⟨hcy, hfy⟩ := d11 BR10; go_wp2; have N5 : Aside0 (w.heap.size ≤ w.heap.size) := ⟨Nat.le_refl _⟩; refine bodyPost_ret (results_cell_row rfl _ _ w.heap.size 57 #[.int .i64 v2, .int .i64 0, .slice none 0 0, .int .u32 0, .int .i64 0, .string ⟨#[]⟩, .int .u64 0, .int .u64 0, .bool false, .int .i64 0, .int .i64 0] (0, 0) _ rfl (bV BR10.out) Tryd.underlying57 rfl (by kernel_rfl)) rfl ?_
  exact ParsedPost.mk1 HVD.out (bH HB10.out)
set_option maxHeartbeats 2000000 in
set_option maxRecDepth 100000 in
theorem line_Parse.touch_e (k : Nat) (s w0 : ByteArray) (wt : List ByteArray) (kd : Int) (a x : ByteArray) (kb : Bool) (v1 xv xe v2 : Int) (w : World) (hL : LdS w) (hs : ¬ 160 < s.size) (hw : line_Words.f s = some (w0 :: wt)) (hk : verb_Kind.f w0 = some kd) (hk0 : ¬ kd = 0) (hkd : ¬ kd ≤ 4) (hwd : line_words.v kd = 3) (hln : wt.length = 2) (hst : verb_Stores.f kd = some false) (hkk : kd = 14) (hlt_ : wt = [a, x]) (hky : fnv_Key.f k a = some kb) (hv1 : wrV (!kb) 4 0 = v1) (hxx : digits_Signed.f k x = some (xv, xe)) (hv2 : wrV (xe != 0) 7 v1 = v2) :
  Calls Tryd.prog 22 #[.string s] w (ParsedPost w (dnV v2 kd [a] xv 0 false)) := by
 have b14 : (kd == 14) = true := beq_iff_eq.2 hkk; have b12 : (kd == 12) = false := beq_eq_false_iff_ne.2 (by omega); have b13 : (kd == 13) = false := beq_eq_false_iff_ne.2 (by omega)
 have HL := Aside0.mk hL; have HST := Aside0.mk hst; have HLT := Aside0.mk hlt_; clear hL hst hkk hlt_
 have HKY := Aside0.mk hky; have HV1 := Aside0.mk hv1; clear hky hv1
 have HXX := Aside0.mk hxx; have HV2 := Aside0.mk hv2; clear hxx hv2
 have hk0 : (kd == 0) = false := beq_eq_false_iff_ne.2 hk0; have hk4 : decide (kd ≤ 4) = false := decide_eq_false hkd; have HWD := Aside0.mk hwd; clear hkd hwd
 have h160 : decide (160 < s.size) = false := decide_eq_false (by omega); have h161 : decide ((160 : Int) < (s.size : Int)) = false := decide_eq_false (by omega); clear hs; obtain ⟨ws, hws⟩ : ∃ ws : List ByteArray, ws = w0 :: wt := ⟨_, rfl⟩; rw [← hws] at hw
 have HK := Aside0.mk hk; clear hk
 have HW := Aside0.mk hw; clear hw
 go_enter Tryd.func22, Tryd.ntmps22
 go_wp2_with (first | fail)
 have BR0 := blk_new w (.cells #[.int .i64 0, .int .i64 0, .slice none 0 0, .int .u32 0, .int .i64 0, .string ⟨#[]⟩, .int .u64 0, .int .u64 0, .bool false, .int .i64 0, .int .i64 0] 57); have HB0 := eA (Below.refl w.heap.size w) (.cells #[.int .i64 0, .int .i64 0, .slice none 0 0, .int .u32 0, .int .i64 0, .string ⟨#[]⟩, .int .u64 0, .int .u64 0, .bool false, .int .i64 0, .int .i64 0] 57)
 have hs0 : (w.alloc (.cells #[.int .i64 0, .int .i64 0, .slice none 0 0, .int .u32 0, .int .i64 0, .string ⟨#[]⟩, .int .u64 0, .int .u64 0, .bool false, .int .i64 0, .int .i64 0] 57)).heap.size = w.heap.size + 1 := by simp
 generalize (w.alloc (.cells #[.int .i64 0, .int .i64 0, .slice none 0 0, .int .u32 0, .int .i64 0, .string ⟨#[]⟩, .int .u64 0, .int .u64 0, .bool false, .int .i64 0, .int .i64 0] 57)) = W0 at BR0 HB0 hs0 ⊢
 with_reducible refine (line_Words.calls s ws _ HW.out).mono ?_
 rintro e_ w1 ⟨v0, rfl, hR, hB⟩
 obtain ⟨A0, c0, rfl, hc0, hC⟩ := Kd.R_reads hR; have BR := Aside0.mk (blk_below BR0 hB); have HB := Aside0.mk (below_step HB0 hB)
 have hlt : w.heap.size < w1.heap.size := blk_lt BR.out
 have HC := Aside0.mk hC; have HCc := Aside0.mk hc0; have HMX := Aside0.mk (Kd.F_max (Kd.C_F Kd.heap_string hC))
 clear BR0 HB0 hs0 hR hB hC hc0; obtain ⟨n, hn⟩ : ∃ n, n = wt.length := ⟨_, rfl⟩; have hl : ws.length = n + 1 := by rw [hws, hn]; rfl
 rw [hl] at HC HCc HMX ⊢; have HCW := Aside0.mk (show Kd.C Kd.string w1 A0 (n + 1) (w0 :: wt) by rw [← hws]; exact HC.out); have HN := Aside0.mk hn; clear HC hws hl hn HW
 obtain ⟨ad, rfl, hcell⟩ := Kd.at_string HCW.out (0 : Int) (by omega) (by omega); have hx0 : w1.cell? ad = some (.string w0) := by simpa [Addr.add, rdOf] using hcell
 clear hcell; have hn0 : 0 < n + 1 := by omega
 go_wp2_with (first | fail)
 with_reducible refine (verb_Kind.calls w0 kd _ HK.out).mono ?_
 rintro e_ w2 ⟨rfl, hB⟩
 have BR2 := Aside0.mk (blk_below BR.out hB); have HB2 := Aside0.mk (below_step HB.out hB); have HF2 := Aside0.mk (Kd.F_below (Kd.C_F Kd.heap_string HCW.out) hB); have hlt2 : w.heap.size < w2.heap.size := blk_lt BR2.out; have hle2 : w1.heap.size ≤ w2.heap.size := hB.size
 clear hB BR HB hlt HCW hx0 hn0; obtain rfl : n = 2 := by have h1 := HN.out; omega
 have HLE := Aside0.mk hln; clear hln
 obtain ⟨A1, hcut0, hcutF⟩ := cutF (some ad) (3) c0 1 (by omega); have hcut : ∀ W : World, (Instr.slice 34 (.slice (some ad) (3) c0) (some (.int .i64 1)) none none).run Tryd.prog W = .ok (.slice A1 2 (c0 - 1)) W := fun W => by simpa using hcut0 W
 have HF3 := Aside0.mk (show Kd.F Kd.string w2 (fun b => b < w1.heap.size) A1 wt.length wt from hcutF w2 (fun b => b < w1.heap.size) (w0 :: wt) (by have h := HN.out; rw [List.length_cons, ← h]) HCc.out (by have h := HF2.out; have h2 := HN.out; have e : (w0 :: wt).length = 3 := (by rw [List.length_cons, ← h2]); rw [e]; exact h)); have HC3 : Aside0 (wt.length ≤ c0 - 1) := ⟨by have h1 := HCc.out; have h2 := HN.out; omega⟩; have hc1 := HCc.out; clear hcut0 hcutF
 go_wp2_with (first | fail)
 have hlw2 : line_words.f kd = some 3 := by unfold line_words.f; rw [HWD.out]
 have HW2 := Aside0.mk hlw2; clear hlw2
 have BRa := bA BR2.out (.cells #[.int .i64 kd, .slice none 0 0, .int .u32 0, .int .i64 0, .string ⟨#[]⟩, .int .u64 0, .int .u64 0, .bool false] 37); have HBa := eA HB2.out (.cells #[.int .i64 kd, .slice none 0 0, .int .u32 0, .int .i64 0, .string ⟨#[]⟩, .int .u64 0, .int .u64 0, .bool false] 37); have HFa := Kd.F_alloc HF3.out (.cells #[.int .i64 kd, .slice none 0 0, .int .u32 0, .int .i64 0, .string ⟨#[]⟩, .int .u64 0, .int .u64 0, .bool false] 37); have BCa := blk_new w2 (.cells #[.int .i64 kd, .slice none 0 0, .int .u32 0, .int .i64 0, .string ⟨#[]⟩, .int .u64 0, .int .u64 0, .bool false] 37)
 have hlta : w.heap.size ≠ w2.heap.size := by omega
 have hle : w1.heap.size ≤ w2.heap.size := hle2; have hltc : w.heap.size < w2.heap.size := hlt2
 generalize hcb : w2.heap.size = cb at BCa hlta hle hltc ⊢; generalize (w2.alloc (.cells #[.int .i64 kd, .slice none 0 0, .int .u32 0, .int .i64 0, .string ⟨#[]⟩, .int .u64 0, .int .u64 0, .bool false] 37)) = W3 at BRa HBa HFa BCa ⊢
 with_reducible refine (line_words.calls kd 3 _ HW2.out).mono ?_
 rintro e_ w3 ⟨rfl, ⟨nd, rfl⟩⟩
 have BR3 := Aside0.mk (bN BRa nd); have HB3 := Aside0.mk (eN HBa nd); have HF3' := Aside0.mk (Kd.F_drewN HFa nd); have BC3 := Aside0.mk (bN BCa nd)
 clear BRa HBa HFa BCa BR2 HB2 HF2 HF3 HW2 hlt2; generalize (W3.drewN nd) = w3 at BR3 HB3 HF3' BC3 ⊢; have hcl3 : cb < w3.heap.size := blk_lt BC3.out; have hrl3 : w.heap.size < w3.heap.size := blk_lt BR3.out
 go_wp2_with (first | fail)
 have BR4 := BR3; have BC4 := BC3; have HB4 := HB3; have HF4 := HF3'; have HLL := HLE; clear BR3 BC3 HB3 HF3' hcl3 hrl3
 generalize w3 = w4 at BR4 BC4 HB4 HF4 ⊢; obtain ⟨A4, hA4⟩ : ∃ A4, A4 = A1 := ⟨_, rfl⟩; rw [← hA4] at HF4 ⊢; clear hA4 hcut
 generalize hls : wt = ls at HF4 HLL; have HLS := Aside0.mk hls; clear hls
 have HCX : Aside0 (2 ≤ c0 - 1) := ⟨by omega⟩; clear hc1
 with_reducible refine (verb_Stores.calls kd false _ HST.out).mono ?_
 rintro e_ w5 ⟨rfl, ⟨nd5, rfl⟩⟩
 have BR5 := bN BR4.out nd5; have HB5 := eN HB4.out nd5; have BC5 := bN BC4.out nd5; have HF5 := Kd.F_drewN HF4.out nd5
 clear BR4 HB4 BC4 HF4; generalize (w4.drewN nd5) = w5 at BR5 HB5 BC5 HF5 ⊢; have hlsv := HLS.out; rw [HLT.out] at hlsv; subst hlsv
 have HI0 := Rdr.new (ok := fun b => b < w1.heap.size) (W := w5) (A := A4) (c := c0 - 1) (f0 := [a, x]) 0 HCX.out HF5 (fun b hb => by have h : b < w1.heap.size := hb; have h2 := blk_lt BC5; omega); have BR6 := Aside0.mk (bA BR5 (.cells #[.slice A4 2 (c0 - 1), .int .i64 0] 71)); have BC6 := Aside0.mk (bA BC5 (.cells #[.slice A4 2 (c0 - 1), .int .i64 0] 71)); have HB6 := Aside0.mk (eA HB5 (.cells #[.slice A4 2 (c0 - 1), .int .i64 0] 71))
 have hcg : cb < w5.heap.size := blk_lt BC5
 have HI6 : Aside0 (Rdr (fun b => b < w1.heap.size) (w5.alloc (.cells #[.slice A4 2 (c0 - 1), .int .i64 0] 71)) w5.heap.size [a, x] 0) := ⟨HI0⟩; obtain ⟨g, hg⟩ : ∃ g, g = w5.heap.size := ⟨_, rfl⟩; clear BR5 HB5 BC5 HF5 HI0
 go_wp2_with (first | fail)
 rw [← hg] at HI6 hcg ⊢; clear hg
 generalize (w5.alloc (.cells #[.slice A4 2 (c0 - 1), .int .i64 0] 71)) = w6 at BR6 BC6 HB6 HI6 ⊢; have HGC : Aside0 (w.heap.size < cb ∧ cb < g ∧ w1.heap.size ≤ cb) := ⟨hltc, hcg, hle⟩; clear hcg
 with_reducible refine (Rdr.key (ok := fun b => b < w1.heap.size) k g a [x] 0 kb w _ HI6.out HB6.out (by have := HGC.out; omega) HKY.out).mono ?_
 rintro e_ w7 ⟨rfl, hI, hB, hK⟩
 rw [HV1.out] at hI; have BC7 := Aside0.mk (blk_keep BC6.out hK (by have := HGC.out; omega)); have BR7 := Aside0.mk (blk_keep BR6.out hK (by have := HGC.out; omega)); have HB7 := Aside0.mk hB; have HI7 := Aside0.mk hI
 clear BC6 BR6 HB6 HI6 hI hB hK; obtain ⟨hc7, hf7⟩ := d8 BC7; have hl7 : cb < w7.heap.size := blk_lt BC7.out; have hg7 : g < w7.heap.size := HI7.out.lt
 go_wp2_with (first | fail)
 obtain ⟨ka, hka⟩ : ∃ ka, ka = w7.heap.size := ⟨_, rfl⟩; rw [← hka] at hl7 hg7 ⊢; have BC8 := bA (blk_set BC7.out 1 (.slice (some ⟨ka, 0, none⟩) 1 1)) (.cells #[.string a] 9); have BR8 := bA (blk_far (p := ⟨cb, 1, none⟩) BR7.out (by show w.heap.size ≠ cb; have := HGC.out; omega) (.slice (some ⟨ka, 0, none⟩) 1 1)) (.cells #[.string a] 9); have BK8 := blk_new (w7.setCell ⟨cb, 1, none⟩ (.slice (some ⟨ka, 0, none⟩) 1 1)) (.cells #[.string a] 9); rw [show (w7.setCell ⟨cb, 1, none⟩ (.slice (some ⟨ka, 0, none⟩) 1 1)).heap.size = ka by rw [hka]; simp] at BK8; have HI8 := (Rdr.far (p := ⟨cb, 1, none⟩) HI7.out (by show g ≠ cb; have := HGC.out; omega) (fun b hb => by show b ≠ cb; have h1 : b < w1.heap.size := hb; have := HGC.out; omega) (.slice (some ⟨ka, 0, none⟩) 1 1)).below (eA (Below.refl _ _) (.cells #[.string a] 9)); have HB8 := eA (eS (g := cb) (j := 1) (v := .slice (some ⟨ka, 0, none⟩) 1 1) HB7.out (by have := HGC.out; omega)) (.cells #[.string a] 9); rw [show ∀ (p0 p1 p2 p3 p4 p5 p6 p7 u : Value), (#[p0, p1, p2, p3, p4, p5, p6, p7] : Array Value).setIfInBounds 1 u = #[p0, u, p2, p3, p4, p5, p6, p7] from fun _ _ _ _ _ _ _ _ _ => rfl] at BC8; clear hf7 hc7 hka BC7 BR7 HB7 HI7; generalize ((w7.setCell ⟨cb, 1, none⟩ (.slice (some ⟨ka, 0, none⟩) 1 1)).alloc (.cells #[.string a] 9)) = w8 at BC8 BR8 BK8 HI8 HB8 ⊢; have HKA : Aside0 (g ≠ ka ∧ cb < ka) := ⟨by omega, hl7⟩; clear hl7 hg7
 have BC8 := Aside0.mk BC8; have BR8 := Aside0.mk BR8; have BK8 := Aside0.mk BK8; have HI8 := Aside0.mk HI8; have HB8 := Aside0.mk HB8
 with_reducible refine (Rdr.signed (ok := fun b => b < w1.heap.size) k g x [] v1 xv xe w _ HI8.out HB8.out (by have := HGC.out; omega) HL.out HXX.out).mono ?_
 rintro e_ w9 ⟨rfl, hI, hB, hK⟩
 rw [HV2.out] at hI; have BC9 := Aside0.mk (blk_keep BC8.out hK (by have := HGC.out; omega)); have BR9 := Aside0.mk (blk_keep BR8.out hK (by have := HGC.out; omega)); have BK9 := Aside0.mk (blk_keep BK8.out hK (fun e_ => HKA.out.1 e_.symm)); have HB9 := Aside0.mk hB; have HI9 := Aside0.mk hI
 clear BC8 BR8 BK8 HB8 HI8 hI hB hK; obtain ⟨hcz, hfz⟩ := d8 BC9
 go_wp2_with (first | fail)
 have hD := HI9.out.far (p := ⟨cb, 3, none⟩) (by show g ≠ cb; have := HGC.out; omega) (fun b hb => by show b ≠ cb; have h1 : b < w1.heap.size := hb; have := HGC.out; omega) (.int .i64 xv); have BRp := blk_far (p := ⟨cb, 3, none⟩) BR9.out (by show w.heap.size ≠ cb; have := HGC.out; omega) (.int .i64 xv); have BKp := blk_far (p := ⟨cb, 3, none⟩) BK9.out (by show ka ≠ cb; have := HKA.out; omega) (.int .i64 xv); have HBp := eS (g := cb) (j := 3) (v := .int .i64 xv) HB9.out (by have := HGC.out; omega); clear hcz hfz
 by_cases hvd : v2 = 0
 ·skip
  rw [hvd] at hD
  with_reducible refine (Rdr.done0 g [] kd (some ⟨ka, 0, none⟩) 1 1 0 xv ⟨#[]⟩ 0 0 false _ hD).mono ?_
  rintro e_ w10 ⟨rfl, hB⟩
  have BR10 := Aside0.mk (blk_below BRp hB); have HB10 := Aside0.mk (below_step HBp hB); have BK10 := Aside0.mk (blk_below BKp hB); clear hB hD
  have HVD : Aside0 (v2 = 0) := ⟨hvd⟩; clear hvd; obtain ⟨hcy, hfy⟩ := d11 BR10; go_wp2; have N5 : Aside0 (w.heap.size ≤ w.heap.size) := ⟨Nat.le_refl _⟩; have N2 : Aside0 (ka ≠ w.heap.size) := ⟨by have h1 := HKA.out; have h2 := HGC.out; omega⟩; refine bodyPost_ret (results_cell_row rfl _ _ w.heap.size 57 #[.int .i64 1, .int .i64 kd, .slice (some ⟨ka, 0, none⟩) 1 1, .int .u32 0, .int .i64 xv, .string ⟨#[]⟩, .int .u64 0, .int .u64 0, .bool false, .int .i64 0, .int .i64 0] (0, 0) _ rfl (bV BR10.out) Tryd.underlying57 rfl (by kernel_rfl)) rfl ?_
  refine ParsedPost.mk0 HVD.out rfl ?_ (bH HB10.out)
  refine Kd.R_mono (ok := fun k => k = ka) ?_ (fun _ _ => trivial)
  refine litR ?_ (by have h1 := HKA.out; have h2 := HGC.out; omega)
  exact bK BK10.out
 ·skip
  with_reducible refine (Rdr.done1 g [] v2 kd (some ⟨ka, 0, none⟩) 1 1 0 xv ⟨#[]⟩ 0 0 false _ hD (bne_iff_ne.2 hvd)).mono ?_
  rintro e_ w10 ⟨rfl, hB⟩
  have BR10 := Aside0.mk (blk_below BRp hB); have HB10 := Aside0.mk (below_step HBp hB); clear hB hD
  have HVD : Aside0 (¬ v2 = 0) := ⟨hvd⟩; clear hvd; obtain ⟨hcy, hfy⟩ := d11 BR10; go_wp2; have N5 : Aside0 (w.heap.size ≤ w.heap.size) := ⟨Nat.le_refl _⟩; refine bodyPost_ret (results_cell_row rfl _ _ w.heap.size 57 #[.int .i64 v2, .int .i64 0, .slice none 0 0, .int .u32 0, .int .i64 0, .string ⟨#[]⟩, .int .u64 0, .int .u64 0, .bool false, .int .i64 0, .int .i64 0] (0, 0) _ rfl (bV BR10.out) Tryd.underlying57 rfl (by kernel_rfl)) rfl ?_
  exact ParsedPost.mk1 HVD.out (bH HB10.out)
set_option maxHeartbeats 2000000 in
set_option maxRecDepth 100000 in
theorem line_Parse.incr_q (k : Nat) (s w0 : ByteArray) (wt : List ByteArray) (kd : Int) (a x : ByteArray) (kb : Bool) (v1 xv xe v2 : Int) (w : World) (hL : LdS w) (hs : ¬ 160 < s.size) (hw : line_Words.f s = some (w0 :: wt)) (hk : verb_Kind.f w0 = some kd) (hk0 : ¬ kd = 0) (hkd : ¬ kd ≤ 4) (hwd : line_words.v kd = 3) (hln : wt.length = 3) (HLW : wt.getD 2 ByteArray.empty = (⟨#[110, 111, 114, 101, 112, 108, 121]⟩ : ByteArray)) (hst : verb_Stores.f kd = some false) (hkk : kd = 12) (hlt_ : wt.take 2 = [a, x]) (hky : fnv_Key.f k a = some kb) (hv1 : wrV (!kb) 4 0 = v1) (hxx : digits_Parse.f x = some (xv, xe)) (hv2 : wrV (xe != 0 || decide ((18446744073709551615 : Int) < xv)) 6 v1 = v2) :
  Calls Tryd.prog 22 #[.string s] w (ParsedPost w (dnV v2 kd [a] 0 xv true)) := by
 have b14 : (kd == 14) = false := beq_eq_false_iff_ne.2 (by omega); have b12 : (kd == 12) = true := beq_iff_eq.2 hkk; have b13 : (kd == 13) = false := beq_eq_false_iff_ne.2 (by omega)
 have HL := Aside0.mk hL; have HST := Aside0.mk hst; have HLT := Aside0.mk hlt_; clear hL hst hkk hlt_
 have HKY := Aside0.mk hky; have HV1 := Aside0.mk hv1; clear hky hv1
 have HXX := Aside0.mk hxx; have HV2 := Aside0.mk hv2; clear hxx hv2
 have hk0 : (kd == 0) = false := beq_eq_false_iff_ne.2 hk0; have hk4 : decide (kd ≤ 4) = false := decide_eq_false hkd; have HWD := Aside0.mk hwd; clear hkd hwd
 have HLN := Aside0.mk hln; clear hln
 have h160 : decide (160 < s.size) = false := decide_eq_false (by omega); have h161 : decide ((160 : Int) < (s.size : Int)) = false := decide_eq_false (by omega); clear hs; obtain ⟨ws, hws⟩ : ∃ ws : List ByteArray, ws = w0 :: wt := ⟨_, rfl⟩; rw [← hws] at hw
 have HK := Aside0.mk hk; clear hk
 have HW := Aside0.mk hw; clear hw
 go_enter Tryd.func22, Tryd.ntmps22
 go_wp2_with (first | fail)
 have BR0 := blk_new w (.cells #[.int .i64 0, .int .i64 0, .slice none 0 0, .int .u32 0, .int .i64 0, .string ⟨#[]⟩, .int .u64 0, .int .u64 0, .bool false, .int .i64 0, .int .i64 0] 57); have HB0 := eA (Below.refl w.heap.size w) (.cells #[.int .i64 0, .int .i64 0, .slice none 0 0, .int .u32 0, .int .i64 0, .string ⟨#[]⟩, .int .u64 0, .int .u64 0, .bool false, .int .i64 0, .int .i64 0] 57)
 have hs0 : (w.alloc (.cells #[.int .i64 0, .int .i64 0, .slice none 0 0, .int .u32 0, .int .i64 0, .string ⟨#[]⟩, .int .u64 0, .int .u64 0, .bool false, .int .i64 0, .int .i64 0] 57)).heap.size = w.heap.size + 1 := by simp
 generalize (w.alloc (.cells #[.int .i64 0, .int .i64 0, .slice none 0 0, .int .u32 0, .int .i64 0, .string ⟨#[]⟩, .int .u64 0, .int .u64 0, .bool false, .int .i64 0, .int .i64 0] 57)) = W0 at BR0 HB0 hs0 ⊢
 with_reducible refine (line_Words.calls s ws _ HW.out).mono ?_
 rintro e_ w1 ⟨v0, rfl, hR, hB⟩
 obtain ⟨A0, c0, rfl, hc0, hC⟩ := Kd.R_reads hR; have BR := Aside0.mk (blk_below BR0 hB); have HB := Aside0.mk (below_step HB0 hB)
 have hlt : w.heap.size < w1.heap.size := blk_lt BR.out
 have HC := Aside0.mk hC; have HCc := Aside0.mk hc0; have HMX := Aside0.mk (Kd.F_max (Kd.C_F Kd.heap_string hC))
 clear BR0 HB0 hs0 hR hB hC hc0; obtain ⟨n, hn⟩ : ∃ n, n = wt.length := ⟨_, rfl⟩; have hl : ws.length = n + 1 := by rw [hws, hn]; rfl
 rw [hl] at HC HCc HMX ⊢; have HCW := Aside0.mk (show Kd.C Kd.string w1 A0 (n + 1) (w0 :: wt) by rw [← hws]; exact HC.out); have HN := Aside0.mk hn; clear HC hws hl hn HW
 obtain ⟨ad, rfl, hcell⟩ := Kd.at_string HCW.out (0 : Int) (by omega) (by omega); have hx0 : w1.cell? ad = some (.string w0) := by simpa [Addr.add, rdOf] using hcell
 clear hcell; have hn0 : 0 < n + 1 := by omega
 go_wp2_with (first | fail)
 with_reducible refine (verb_Kind.calls w0 kd _ HK.out).mono ?_
 rintro e_ w2 ⟨rfl, hB⟩
 have BR2 := Aside0.mk (blk_below BR.out hB); have HB2 := Aside0.mk (below_step HB.out hB); have HF2 := Aside0.mk (Kd.F_below (Kd.C_F Kd.heap_string HCW.out) hB); have hlt2 : w.heap.size < w2.heap.size := blk_lt BR2.out; have hle2 : w1.heap.size ≤ w2.heap.size := hB.size
 clear hB BR HB hlt HCW hx0 hn0; obtain rfl : n = 3 := by have h1 := HN.out; have h2 := HLN.out; omega
 obtain ⟨A1, hcut0, hcutF⟩ := cutF (some ad) (4) c0 1 (by omega); have hcut : ∀ W : World, (Instr.slice 34 (.slice (some ad) (4) c0) (some (.int .i64 1)) none none).run Tryd.prog W = .ok (.slice A1 3 (c0 - 1)) W := fun W => by simpa using hcut0 W
 have HF3 := Aside0.mk (show Kd.F Kd.string w2 (fun b => b < w1.heap.size) A1 wt.length wt from hcutF w2 (fun b => b < w1.heap.size) (w0 :: wt) (by have h := HN.out; rw [List.length_cons, ← h]) HCc.out (by have h := HF2.out; have h2 := HN.out; have e : (w0 :: wt).length = 4 := (by rw [List.length_cons, ← h2]); rw [e]; exact h)); have HC3 : Aside0 (wt.length ≤ c0 - 1) := ⟨by have h1 := HCc.out; have h2 := HN.out; omega⟩; have hc1 := HCc.out; clear hcut0 hcutF
 go_wp2_with (first | fail)
 have hlw2 : line_words.f kd = some 3 := by unfold line_words.f; rw [HWD.out]
 have HW2 := Aside0.mk hlw2; clear hlw2
 have BRa := bA BR2.out (.cells #[.int .i64 kd, .slice none 0 0, .int .u32 0, .int .i64 0, .string ⟨#[]⟩, .int .u64 0, .int .u64 0, .bool false] 37); have HBa := eA HB2.out (.cells #[.int .i64 kd, .slice none 0 0, .int .u32 0, .int .i64 0, .string ⟨#[]⟩, .int .u64 0, .int .u64 0, .bool false] 37); have HFa := Kd.F_alloc HF3.out (.cells #[.int .i64 kd, .slice none 0 0, .int .u32 0, .int .i64 0, .string ⟨#[]⟩, .int .u64 0, .int .u64 0, .bool false] 37); have BCa := blk_new w2 (.cells #[.int .i64 kd, .slice none 0 0, .int .u32 0, .int .i64 0, .string ⟨#[]⟩, .int .u64 0, .int .u64 0, .bool false] 37)
 have hlta : w.heap.size ≠ w2.heap.size := by omega
 have hle : w1.heap.size ≤ w2.heap.size := hle2; have hltc : w.heap.size < w2.heap.size := hlt2
 generalize hcb : w2.heap.size = cb at BCa hlta hle hltc ⊢; generalize (w2.alloc (.cells #[.int .i64 kd, .slice none 0 0, .int .u32 0, .int .i64 0, .string ⟨#[]⟩, .int .u64 0, .int .u64 0, .bool false] 37)) = W3 at BRa HBa HFa BCa ⊢
 with_reducible refine (line_words.calls kd 3 _ HW2.out).mono ?_
 rintro e_ w3 ⟨rfl, ⟨nd, rfl⟩⟩
 have BR3 := Aside0.mk (bN BRa nd); have HB3 := Aside0.mk (eN HBa nd); have HF3' := Aside0.mk (Kd.F_drewN HFa nd); have BC3 := Aside0.mk (bN BCa nd)
 clear BRa HBa HFa BCa BR2 HB2 HF2 HF3 HW2 hlt2; generalize (W3.drewN nd) = w3 at BR3 HB3 HF3' BC3 ⊢; have hcl3 : cb < w3.heap.size := blk_lt BC3.out; have hrl3 : w.heap.size < w3.heap.size := blk_lt BR3.out
 obtain ⟨ad1, rfl, hcl⟩ := Kd.at_string (Kd.F_now HF3'.out) (2 : Int) (by omega) (by rw [HLN.out]; omega); have hxl : w3.cell? ⟨ad1.block, ad1.off + 2, none⟩ = some (.string (wt.getD 2 ByteArray.empty)) := by simpa [Addr.add, rdOf] using hcl
 clear hcl; rw [HLW] at hxl; have hf7 : w3.frozen? ⟨cb, 7, none⟩ = false := blk_frozen BC3.out 7; have hc7 : w3.cell? ⟨cb, 7, none⟩ = some (.bool false) := (blk_cell BC3.out 7).trans rfl
 have htk : ∀ W : World, (Instr.slice 34 (.slice (some ad1) 3 (c0 - 1)) none (some (.int .i64 2)) none).run Tryd.prog W = .ok (.slice (some ad1) 2 (c0 - 1)) W := fun W => by simpa using takeF (some ad1) 3 (c0 - 1) 2 (by omega) (by omega) W
 go_wp2_with (first | fail)
 have BR4 := Aside0.mk (blk_far (p := ⟨cb, 7, none⟩) BR3.out hlta (.bool true)); have BC4 := Aside0.mk (blk_set BC3.out 7 (.bool true)); have HB4 := Aside0.mk (eS (g := cb) (j := 7) (v := .bool true) HB3.out (by omega)); have HF4 := Aside0.mk (Kd.F_far (p := ⟨cb, 7, none⟩) (show Kd.F Kd.string w3 (fun b => b < w1.heap.size) (some ad1) (wt.take 2).length (wt.take 2) from Kd.F_take HF3'.out (by rw [HLN.out]; omega)) (fun b hb => by have h : b < w1.heap.size := hb; show b ≠ cb; omega) (.bool true))
 have HLL : Aside0 ((wt.take 2).length = 2) := ⟨by rw [List.length_take, HLN.out]; rfl⟩; rw [show ∀ (p0 p1 p2 p3 p4 p5 p6 p7 u : Value), (#[p0, p1, p2, p3, p4, p5, p6, p7] : Array Value).setIfInBounds 7 u = #[p0, p1, p2, p3, p4, p5, p6, u] from fun _ _ _ _ _ _ _ _ _ => rfl] at BC4; clear BR3 BC3 HB3 HF3' hxl hf7 hc7 htk hcl3 hrl3; generalize (w3.setCell ⟨cb, 7, none⟩ (.bool true)) = w4 at BR4 BC4 HB4 HF4 ⊢; generalize hls : wt.take 2 = ls at HF4 HLL; have HLS := Aside0.mk hls; clear hls
 obtain ⟨A4, hA4⟩ : ∃ A4, A4 = some ad1 := ⟨_, rfl⟩; rw [← hA4] at HF4 ⊢; clear hA4
 have HCX : Aside0 (2 ≤ c0 - 1) := ⟨by omega⟩; clear hc1
 with_reducible refine (verb_Stores.calls kd false _ HST.out).mono ?_
 rintro e_ w5 ⟨rfl, ⟨nd5, rfl⟩⟩
 have BR5 := bN BR4.out nd5; have HB5 := eN HB4.out nd5; have BC5 := bN BC4.out nd5; have HF5 := Kd.F_drewN HF4.out nd5
 clear BR4 HB4 BC4 HF4; generalize (w4.drewN nd5) = w5 at BR5 HB5 BC5 HF5 ⊢; have hlsv := HLS.out; rw [HLT.out] at hlsv; subst hlsv
 have HI0 := Rdr.new (ok := fun b => b < w1.heap.size) (W := w5) (A := A4) (c := c0 - 1) (f0 := [a, x]) 0 HCX.out HF5 (fun b hb => by have h : b < w1.heap.size := hb; have h2 := blk_lt BC5; omega); have BR6 := Aside0.mk (bA BR5 (.cells #[.slice A4 2 (c0 - 1), .int .i64 0] 71)); have BC6 := Aside0.mk (bA BC5 (.cells #[.slice A4 2 (c0 - 1), .int .i64 0] 71)); have HB6 := Aside0.mk (eA HB5 (.cells #[.slice A4 2 (c0 - 1), .int .i64 0] 71))
 have hcg : cb < w5.heap.size := blk_lt BC5
 have HI6 : Aside0 (Rdr (fun b => b < w1.heap.size) (w5.alloc (.cells #[.slice A4 2 (c0 - 1), .int .i64 0] 71)) w5.heap.size [a, x] 0) := ⟨HI0⟩; obtain ⟨g, hg⟩ : ∃ g, g = w5.heap.size := ⟨_, rfl⟩; clear BR5 HB5 BC5 HF5 HI0
 go_wp2_with (first | fail)
 rw [← hg] at HI6 hcg ⊢; clear hg
 generalize (w5.alloc (.cells #[.slice A4 2 (c0 - 1), .int .i64 0] 71)) = w6 at BR6 BC6 HB6 HI6 ⊢; have HGC : Aside0 (w.heap.size < cb ∧ cb < g ∧ w1.heap.size ≤ cb) := ⟨hltc, hcg, hle⟩; clear hcg
 with_reducible refine (Rdr.key (ok := fun b => b < w1.heap.size) k g a [x] 0 kb w _ HI6.out HB6.out (by have := HGC.out; omega) HKY.out).mono ?_
 rintro e_ w7 ⟨rfl, hI, hB, hK⟩
 rw [HV1.out] at hI; have BC7 := Aside0.mk (blk_keep BC6.out hK (by have := HGC.out; omega)); have BR7 := Aside0.mk (blk_keep BR6.out hK (by have := HGC.out; omega)); have HB7 := Aside0.mk hB; have HI7 := Aside0.mk hI
 clear BC6 BR6 HB6 HI6 hI hB hK; obtain ⟨hc7, hf7⟩ := d8 BC7; have hl7 : cb < w7.heap.size := blk_lt BC7.out; have hg7 : g < w7.heap.size := HI7.out.lt
 go_wp2_with (first | fail)
 obtain ⟨ka, hka⟩ : ∃ ka, ka = w7.heap.size := ⟨_, rfl⟩; rw [← hka] at hl7 hg7 ⊢; have BC8 := bA (blk_set BC7.out 1 (.slice (some ⟨ka, 0, none⟩) 1 1)) (.cells #[.string a] 9); have BR8 := bA (blk_far (p := ⟨cb, 1, none⟩) BR7.out (by show w.heap.size ≠ cb; have := HGC.out; omega) (.slice (some ⟨ka, 0, none⟩) 1 1)) (.cells #[.string a] 9); have BK8 := blk_new (w7.setCell ⟨cb, 1, none⟩ (.slice (some ⟨ka, 0, none⟩) 1 1)) (.cells #[.string a] 9); rw [show (w7.setCell ⟨cb, 1, none⟩ (.slice (some ⟨ka, 0, none⟩) 1 1)).heap.size = ka by rw [hka]; simp] at BK8; have HI8 := (Rdr.far (p := ⟨cb, 1, none⟩) HI7.out (by show g ≠ cb; have := HGC.out; omega) (fun b hb => by show b ≠ cb; have h1 : b < w1.heap.size := hb; have := HGC.out; omega) (.slice (some ⟨ka, 0, none⟩) 1 1)).below (eA (Below.refl _ _) (.cells #[.string a] 9)); have HB8 := eA (eS (g := cb) (j := 1) (v := .slice (some ⟨ka, 0, none⟩) 1 1) HB7.out (by have := HGC.out; omega)) (.cells #[.string a] 9); rw [show ∀ (p0 p1 p2 p3 p4 p5 p6 p7 u : Value), (#[p0, p1, p2, p3, p4, p5, p6, p7] : Array Value).setIfInBounds 1 u = #[p0, u, p2, p3, p4, p5, p6, p7] from fun _ _ _ _ _ _ _ _ _ => rfl] at BC8; clear hf7 hc7 hka BC7 BR7 HB7 HI7; generalize ((w7.setCell ⟨cb, 1, none⟩ (.slice (some ⟨ka, 0, none⟩) 1 1)).alloc (.cells #[.string a] 9)) = w8 at BC8 BR8 BK8 HI8 HB8 ⊢; have HKA : Aside0 (g ≠ ka ∧ cb < ka) := ⟨by omega, hl7⟩; clear hl7 hg7
 have BC8 := Aside0.mk BC8; have BR8 := Aside0.mk BR8; have BK8 := Aside0.mk BK8; have HI8 := Aside0.mk HI8; have HB8 := Aside0.mk HB8
 with_reducible refine (Rdr.number (ok := fun b => b < w1.heap.size) g x [] v1 xv xe 18446744073709551615 6 w _ HI8.out HB8.out (by have := HGC.out; omega) HL.out HXX.out).mono ?_
 rintro e_ w9 ⟨rfl, hI, hB, hK⟩
 rw [HV2.out] at hI; have BC9 := Aside0.mk (blk_keep BC8.out hK (by have := HGC.out; omega)); have BR9 := Aside0.mk (blk_keep BR8.out hK (by have := HGC.out; omega)); have BK9 := Aside0.mk (blk_keep BK8.out hK (fun e_ => HKA.out.1 e_.symm)); have HB9 := Aside0.mk hB; have HI9 := Aside0.mk hI
 clear BC8 BR8 BK8 HB8 HI8 hI hB hK; obtain ⟨hcz, hfz⟩ := d8 BC9
 go_wp2_with (first | fail)
 have hD := HI9.out.far (p := ⟨cb, 6, none⟩) (by show g ≠ cb; have := HGC.out; omega) (fun b hb => by show b ≠ cb; have h1 : b < w1.heap.size := hb; have := HGC.out; omega) (.int .u64 xv); have BRp := blk_far (p := ⟨cb, 6, none⟩) BR9.out (by show w.heap.size ≠ cb; have := HGC.out; omega) (.int .u64 xv); have BKp := blk_far (p := ⟨cb, 6, none⟩) BK9.out (by show ka ≠ cb; have := HKA.out; omega) (.int .u64 xv); have HBp := eS (g := cb) (j := 6) (v := .int .u64 xv) HB9.out (by have := HGC.out; omega); clear hcz hfz
 by_cases hvd : v2 = 0
 ·skip
  rw [hvd] at hD
  with_reducible refine (Rdr.done0 g [] kd (some ⟨ka, 0, none⟩) 1 1 0 0 ⟨#[]⟩ 0 xv true _ hD).mono ?_
  rintro e_ w10 ⟨rfl, hB⟩
  have BR10 := Aside0.mk (blk_below BRp hB); have HB10 := Aside0.mk (below_step HBp hB); have BK10 := Aside0.mk (blk_below BKp hB); clear hB hD
  have HVD : Aside0 (v2 = 0) := ⟨hvd⟩; clear hvd; obtain ⟨hcy, hfy⟩ := d11 BR10; go_wp2; have N5 : Aside0 (w.heap.size ≤ w.heap.size) := ⟨Nat.le_refl _⟩; have N2 : Aside0 (ka ≠ w.heap.size) := ⟨by have h1 := HKA.out; have h2 := HGC.out; omega⟩; refine bodyPost_ret (results_cell_row rfl _ _ w.heap.size 57 #[.int .i64 1, .int .i64 kd, .slice (some ⟨ka, 0, none⟩) 1 1, .int .u32 0, .int .i64 0, .string ⟨#[]⟩, .int .u64 0, .int .u64 xv, .bool true, .int .i64 0, .int .i64 0] (0, 0) _ rfl (bV BR10.out) Tryd.underlying57 rfl (by kernel_rfl)) rfl ?_
  refine ParsedPost.mk0 HVD.out rfl ?_ (bH HB10.out)
  refine Kd.R_mono (ok := fun k => k = ka) ?_ (fun _ _ => trivial)
  refine litR ?_ (by have h1 := HKA.out; have h2 := HGC.out; omega)
  exact bK BK10.out
 ·skip
  with_reducible refine (Rdr.done1 g [] v2 kd (some ⟨ka, 0, none⟩) 1 1 0 0 ⟨#[]⟩ 0 xv true _ hD (bne_iff_ne.2 hvd)).mono ?_
  rintro e_ w10 ⟨rfl, hB⟩
  have BR10 := Aside0.mk (blk_below BRp hB); have HB10 := Aside0.mk (below_step HBp hB); clear hB hD
  have HVD : Aside0 (¬ v2 = 0) := ⟨hvd⟩; clear hvd; obtain ⟨hcy, hfy⟩ := d11 BR10; go_wp2; have N5 : Aside0 (w.heap.size ≤ w.heap.size) := ⟨Nat.le_refl _⟩; refine bodyPost_ret (results_cell_row rfl _ _ w.heap.size 57 #[.int .i64 v2, .int .i64 0, .slice none 0 0, .int .u32 0, .int .i64 0, .string ⟨#[]⟩, .int .u64 0, .int .u64 0, .bool false, .int .i64 0, .int .i64 0] (0, 0) _ rfl (bV BR10.out) Tryd.underlying57 rfl (by kernel_rfl)) rfl ?_
  exact ParsedPost.mk1 HVD.out (bH HB10.out)
set_option maxHeartbeats 2000000 in
set_option maxRecDepth 100000 in
theorem line_Parse.incr_e (k : Nat) (s w0 : ByteArray) (wt : List ByteArray) (kd : Int) (a x : ByteArray) (kb : Bool) (v1 xv xe v2 : Int) (w : World) (hL : LdS w) (hs : ¬ 160 < s.size) (hw : line_Words.f s = some (w0 :: wt)) (hk : verb_Kind.f w0 = some kd) (hk0 : ¬ kd = 0) (hkd : ¬ kd ≤ 4) (hwd : line_words.v kd = 3) (hln : wt.length = 2) (hst : verb_Stores.f kd = some false) (hkk : kd = 12) (hlt_ : wt = [a, x]) (hky : fnv_Key.f k a = some kb) (hv1 : wrV (!kb) 4 0 = v1) (hxx : digits_Parse.f x = some (xv, xe)) (hv2 : wrV (xe != 0 || decide ((18446744073709551615 : Int) < xv)) 6 v1 = v2) :
  Calls Tryd.prog 22 #[.string s] w (ParsedPost w (dnV v2 kd [a] 0 xv false)) := by
 have b14 : (kd == 14) = false := beq_eq_false_iff_ne.2 (by omega); have b12 : (kd == 12) = true := beq_iff_eq.2 hkk; have b13 : (kd == 13) = false := beq_eq_false_iff_ne.2 (by omega)
 have HL := Aside0.mk hL; have HST := Aside0.mk hst; have HLT := Aside0.mk hlt_; clear hL hst hkk hlt_
 have HKY := Aside0.mk hky; have HV1 := Aside0.mk hv1; clear hky hv1
 have HXX := Aside0.mk hxx; have HV2 := Aside0.mk hv2; clear hxx hv2
 have hk0 : (kd == 0) = false := beq_eq_false_iff_ne.2 hk0; have hk4 : decide (kd ≤ 4) = false := decide_eq_false hkd; have HWD := Aside0.mk hwd; clear hkd hwd
 have h160 : decide (160 < s.size) = false := decide_eq_false (by omega); have h161 : decide ((160 : Int) < (s.size : Int)) = false := decide_eq_false (by omega); clear hs; obtain ⟨ws, hws⟩ : ∃ ws : List ByteArray, ws = w0 :: wt := ⟨_, rfl⟩; rw [← hws] at hw
 have HK := Aside0.mk hk; clear hk
 have HW := Aside0.mk hw; clear hw
 go_enter Tryd.func22, Tryd.ntmps22
 go_wp2_with (first | fail)
 have BR0 := blk_new w (.cells #[.int .i64 0, .int .i64 0, .slice none 0 0, .int .u32 0, .int .i64 0, .string ⟨#[]⟩, .int .u64 0, .int .u64 0, .bool false, .int .i64 0, .int .i64 0] 57); have HB0 := eA (Below.refl w.heap.size w) (.cells #[.int .i64 0, .int .i64 0, .slice none 0 0, .int .u32 0, .int .i64 0, .string ⟨#[]⟩, .int .u64 0, .int .u64 0, .bool false, .int .i64 0, .int .i64 0] 57)
 have hs0 : (w.alloc (.cells #[.int .i64 0, .int .i64 0, .slice none 0 0, .int .u32 0, .int .i64 0, .string ⟨#[]⟩, .int .u64 0, .int .u64 0, .bool false, .int .i64 0, .int .i64 0] 57)).heap.size = w.heap.size + 1 := by simp
 generalize (w.alloc (.cells #[.int .i64 0, .int .i64 0, .slice none 0 0, .int .u32 0, .int .i64 0, .string ⟨#[]⟩, .int .u64 0, .int .u64 0, .bool false, .int .i64 0, .int .i64 0] 57)) = W0 at BR0 HB0 hs0 ⊢
 with_reducible refine (line_Words.calls s ws _ HW.out).mono ?_
 rintro e_ w1 ⟨v0, rfl, hR, hB⟩
 obtain ⟨A0, c0, rfl, hc0, hC⟩ := Kd.R_reads hR; have BR := Aside0.mk (blk_below BR0 hB); have HB := Aside0.mk (below_step HB0 hB)
 have hlt : w.heap.size < w1.heap.size := blk_lt BR.out
 have HC := Aside0.mk hC; have HCc := Aside0.mk hc0; have HMX := Aside0.mk (Kd.F_max (Kd.C_F Kd.heap_string hC))
 clear BR0 HB0 hs0 hR hB hC hc0; obtain ⟨n, hn⟩ : ∃ n, n = wt.length := ⟨_, rfl⟩; have hl : ws.length = n + 1 := by rw [hws, hn]; rfl
 rw [hl] at HC HCc HMX ⊢; have HCW := Aside0.mk (show Kd.C Kd.string w1 A0 (n + 1) (w0 :: wt) by rw [← hws]; exact HC.out); have HN := Aside0.mk hn; clear HC hws hl hn HW
 obtain ⟨ad, rfl, hcell⟩ := Kd.at_string HCW.out (0 : Int) (by omega) (by omega); have hx0 : w1.cell? ad = some (.string w0) := by simpa [Addr.add, rdOf] using hcell
 clear hcell; have hn0 : 0 < n + 1 := by omega
 go_wp2_with (first | fail)
 with_reducible refine (verb_Kind.calls w0 kd _ HK.out).mono ?_
 rintro e_ w2 ⟨rfl, hB⟩
 have BR2 := Aside0.mk (blk_below BR.out hB); have HB2 := Aside0.mk (below_step HB.out hB); have HF2 := Aside0.mk (Kd.F_below (Kd.C_F Kd.heap_string HCW.out) hB); have hlt2 : w.heap.size < w2.heap.size := blk_lt BR2.out; have hle2 : w1.heap.size ≤ w2.heap.size := hB.size
 clear hB BR HB hlt HCW hx0 hn0; obtain rfl : n = 2 := by have h1 := HN.out; omega
 have HLE := Aside0.mk hln; clear hln
 obtain ⟨A1, hcut0, hcutF⟩ := cutF (some ad) (3) c0 1 (by omega); have hcut : ∀ W : World, (Instr.slice 34 (.slice (some ad) (3) c0) (some (.int .i64 1)) none none).run Tryd.prog W = .ok (.slice A1 2 (c0 - 1)) W := fun W => by simpa using hcut0 W
 have HF3 := Aside0.mk (show Kd.F Kd.string w2 (fun b => b < w1.heap.size) A1 wt.length wt from hcutF w2 (fun b => b < w1.heap.size) (w0 :: wt) (by have h := HN.out; rw [List.length_cons, ← h]) HCc.out (by have h := HF2.out; have h2 := HN.out; have e : (w0 :: wt).length = 3 := (by rw [List.length_cons, ← h2]); rw [e]; exact h)); have HC3 : Aside0 (wt.length ≤ c0 - 1) := ⟨by have h1 := HCc.out; have h2 := HN.out; omega⟩; have hc1 := HCc.out; clear hcut0 hcutF
 go_wp2_with (first | fail)
 have hlw2 : line_words.f kd = some 3 := by unfold line_words.f; rw [HWD.out]
 have HW2 := Aside0.mk hlw2; clear hlw2
 have BRa := bA BR2.out (.cells #[.int .i64 kd, .slice none 0 0, .int .u32 0, .int .i64 0, .string ⟨#[]⟩, .int .u64 0, .int .u64 0, .bool false] 37); have HBa := eA HB2.out (.cells #[.int .i64 kd, .slice none 0 0, .int .u32 0, .int .i64 0, .string ⟨#[]⟩, .int .u64 0, .int .u64 0, .bool false] 37); have HFa := Kd.F_alloc HF3.out (.cells #[.int .i64 kd, .slice none 0 0, .int .u32 0, .int .i64 0, .string ⟨#[]⟩, .int .u64 0, .int .u64 0, .bool false] 37); have BCa := blk_new w2 (.cells #[.int .i64 kd, .slice none 0 0, .int .u32 0, .int .i64 0, .string ⟨#[]⟩, .int .u64 0, .int .u64 0, .bool false] 37)
 have hlta : w.heap.size ≠ w2.heap.size := by omega
 have hle : w1.heap.size ≤ w2.heap.size := hle2; have hltc : w.heap.size < w2.heap.size := hlt2
 generalize hcb : w2.heap.size = cb at BCa hlta hle hltc ⊢; generalize (w2.alloc (.cells #[.int .i64 kd, .slice none 0 0, .int .u32 0, .int .i64 0, .string ⟨#[]⟩, .int .u64 0, .int .u64 0, .bool false] 37)) = W3 at BRa HBa HFa BCa ⊢
 with_reducible refine (line_words.calls kd 3 _ HW2.out).mono ?_
 rintro e_ w3 ⟨rfl, ⟨nd, rfl⟩⟩
 have BR3 := Aside0.mk (bN BRa nd); have HB3 := Aside0.mk (eN HBa nd); have HF3' := Aside0.mk (Kd.F_drewN HFa nd); have BC3 := Aside0.mk (bN BCa nd)
 clear BRa HBa HFa BCa BR2 HB2 HF2 HF3 HW2 hlt2; generalize (W3.drewN nd) = w3 at BR3 HB3 HF3' BC3 ⊢; have hcl3 : cb < w3.heap.size := blk_lt BC3.out; have hrl3 : w.heap.size < w3.heap.size := blk_lt BR3.out
 go_wp2_with (first | fail)
 have BR4 := BR3; have BC4 := BC3; have HB4 := HB3; have HF4 := HF3'; have HLL := HLE; clear BR3 BC3 HB3 HF3' hcl3 hrl3
 generalize w3 = w4 at BR4 BC4 HB4 HF4 ⊢; obtain ⟨A4, hA4⟩ : ∃ A4, A4 = A1 := ⟨_, rfl⟩; rw [← hA4] at HF4 ⊢; clear hA4 hcut
 generalize hls : wt = ls at HF4 HLL; have HLS := Aside0.mk hls; clear hls
 have HCX : Aside0 (2 ≤ c0 - 1) := ⟨by omega⟩; clear hc1
 with_reducible refine (verb_Stores.calls kd false _ HST.out).mono ?_
 rintro e_ w5 ⟨rfl, ⟨nd5, rfl⟩⟩
 have BR5 := bN BR4.out nd5; have HB5 := eN HB4.out nd5; have BC5 := bN BC4.out nd5; have HF5 := Kd.F_drewN HF4.out nd5
 clear BR4 HB4 BC4 HF4; generalize (w4.drewN nd5) = w5 at BR5 HB5 BC5 HF5 ⊢; have hlsv := HLS.out; rw [HLT.out] at hlsv; subst hlsv
 have HI0 := Rdr.new (ok := fun b => b < w1.heap.size) (W := w5) (A := A4) (c := c0 - 1) (f0 := [a, x]) 0 HCX.out HF5 (fun b hb => by have h : b < w1.heap.size := hb; have h2 := blk_lt BC5; omega); have BR6 := Aside0.mk (bA BR5 (.cells #[.slice A4 2 (c0 - 1), .int .i64 0] 71)); have BC6 := Aside0.mk (bA BC5 (.cells #[.slice A4 2 (c0 - 1), .int .i64 0] 71)); have HB6 := Aside0.mk (eA HB5 (.cells #[.slice A4 2 (c0 - 1), .int .i64 0] 71))
 have hcg : cb < w5.heap.size := blk_lt BC5
 have HI6 : Aside0 (Rdr (fun b => b < w1.heap.size) (w5.alloc (.cells #[.slice A4 2 (c0 - 1), .int .i64 0] 71)) w5.heap.size [a, x] 0) := ⟨HI0⟩; obtain ⟨g, hg⟩ : ∃ g, g = w5.heap.size := ⟨_, rfl⟩; clear BR5 HB5 BC5 HF5 HI0
 go_wp2_with (first | fail)
 rw [← hg] at HI6 hcg ⊢; clear hg
 generalize (w5.alloc (.cells #[.slice A4 2 (c0 - 1), .int .i64 0] 71)) = w6 at BR6 BC6 HB6 HI6 ⊢; have HGC : Aside0 (w.heap.size < cb ∧ cb < g ∧ w1.heap.size ≤ cb) := ⟨hltc, hcg, hle⟩; clear hcg
 with_reducible refine (Rdr.key (ok := fun b => b < w1.heap.size) k g a [x] 0 kb w _ HI6.out HB6.out (by have := HGC.out; omega) HKY.out).mono ?_
 rintro e_ w7 ⟨rfl, hI, hB, hK⟩
 rw [HV1.out] at hI; have BC7 := Aside0.mk (blk_keep BC6.out hK (by have := HGC.out; omega)); have BR7 := Aside0.mk (blk_keep BR6.out hK (by have := HGC.out; omega)); have HB7 := Aside0.mk hB; have HI7 := Aside0.mk hI
 clear BC6 BR6 HB6 HI6 hI hB hK; obtain ⟨hc7, hf7⟩ := d8 BC7; have hl7 : cb < w7.heap.size := blk_lt BC7.out; have hg7 : g < w7.heap.size := HI7.out.lt
 go_wp2_with (first | fail)
 obtain ⟨ka, hka⟩ : ∃ ka, ka = w7.heap.size := ⟨_, rfl⟩; rw [← hka] at hl7 hg7 ⊢; have BC8 := bA (blk_set BC7.out 1 (.slice (some ⟨ka, 0, none⟩) 1 1)) (.cells #[.string a] 9); have BR8 := bA (blk_far (p := ⟨cb, 1, none⟩) BR7.out (by show w.heap.size ≠ cb; have := HGC.out; omega) (.slice (some ⟨ka, 0, none⟩) 1 1)) (.cells #[.string a] 9); have BK8 := blk_new (w7.setCell ⟨cb, 1, none⟩ (.slice (some ⟨ka, 0, none⟩) 1 1)) (.cells #[.string a] 9); rw [show (w7.setCell ⟨cb, 1, none⟩ (.slice (some ⟨ka, 0, none⟩) 1 1)).heap.size = ka by rw [hka]; simp] at BK8; have HI8 := (Rdr.far (p := ⟨cb, 1, none⟩) HI7.out (by show g ≠ cb; have := HGC.out; omega) (fun b hb => by show b ≠ cb; have h1 : b < w1.heap.size := hb; have := HGC.out; omega) (.slice (some ⟨ka, 0, none⟩) 1 1)).below (eA (Below.refl _ _) (.cells #[.string a] 9)); have HB8 := eA (eS (g := cb) (j := 1) (v := .slice (some ⟨ka, 0, none⟩) 1 1) HB7.out (by have := HGC.out; omega)) (.cells #[.string a] 9); rw [show ∀ (p0 p1 p2 p3 p4 p5 p6 p7 u : Value), (#[p0, p1, p2, p3, p4, p5, p6, p7] : Array Value).setIfInBounds 1 u = #[p0, u, p2, p3, p4, p5, p6, p7] from fun _ _ _ _ _ _ _ _ _ => rfl] at BC8; clear hf7 hc7 hka BC7 BR7 HB7 HI7; generalize ((w7.setCell ⟨cb, 1, none⟩ (.slice (some ⟨ka, 0, none⟩) 1 1)).alloc (.cells #[.string a] 9)) = w8 at BC8 BR8 BK8 HI8 HB8 ⊢; have HKA : Aside0 (g ≠ ka ∧ cb < ka) := ⟨by omega, hl7⟩; clear hl7 hg7
 have BC8 := Aside0.mk BC8; have BR8 := Aside0.mk BR8; have BK8 := Aside0.mk BK8; have HI8 := Aside0.mk HI8; have HB8 := Aside0.mk HB8
 with_reducible refine (Rdr.number (ok := fun b => b < w1.heap.size) g x [] v1 xv xe 18446744073709551615 6 w _ HI8.out HB8.out (by have := HGC.out; omega) HL.out HXX.out).mono ?_
 rintro e_ w9 ⟨rfl, hI, hB, hK⟩
 rw [HV2.out] at hI; have BC9 := Aside0.mk (blk_keep BC8.out hK (by have := HGC.out; omega)); have BR9 := Aside0.mk (blk_keep BR8.out hK (by have := HGC.out; omega)); have BK9 := Aside0.mk (blk_keep BK8.out hK (fun e_ => HKA.out.1 e_.symm)); have HB9 := Aside0.mk hB; have HI9 := Aside0.mk hI
 clear BC8 BR8 BK8 HB8 HI8 hI hB hK; obtain ⟨hcz, hfz⟩ := d8 BC9
 go_wp2_with (first | fail)
 have hD := HI9.out.far (p := ⟨cb, 6, none⟩) (by show g ≠ cb; have := HGC.out; omega) (fun b hb => by show b ≠ cb; have h1 : b < w1.heap.size := hb; have := HGC.out; omega) (.int .u64 xv); have BRp := blk_far (p := ⟨cb, 6, none⟩) BR9.out (by show w.heap.size ≠ cb; have := HGC.out; omega) (.int .u64 xv); have BKp := blk_far (p := ⟨cb, 6, none⟩) BK9.out (by show ka ≠ cb; have := HKA.out; omega) (.int .u64 xv); have HBp := eS (g := cb) (j := 6) (v := .int .u64 xv) HB9.out (by have := HGC.out; omega); clear hcz hfz
 by_cases hvd : v2 = 0
 ·skip
  rw [hvd] at hD
  with_reducible refine (Rdr.done0 g [] kd (some ⟨ka, 0, none⟩) 1 1 0 0 ⟨#[]⟩ 0 xv false _ hD).mono ?_
  rintro e_ w10 ⟨rfl, hB⟩
  have BR10 := Aside0.mk (blk_below BRp hB); have HB10 := Aside0.mk (below_step HBp hB); have BK10 := Aside0.mk (blk_below BKp hB); clear hB hD
  have HVD : Aside0 (v2 = 0) := ⟨hvd⟩; clear hvd; obtain ⟨hcy, hfy⟩ := d11 BR10; go_wp2; have N5 : Aside0 (w.heap.size ≤ w.heap.size) := ⟨Nat.le_refl _⟩; have N2 : Aside0 (ka ≠ w.heap.size) := ⟨by have h1 := HKA.out; have h2 := HGC.out; omega⟩; refine bodyPost_ret (results_cell_row rfl _ _ w.heap.size 57 #[.int .i64 1, .int .i64 kd, .slice (some ⟨ka, 0, none⟩) 1 1, .int .u32 0, .int .i64 0, .string ⟨#[]⟩, .int .u64 0, .int .u64 xv, .bool false, .int .i64 0, .int .i64 0] (0, 0) _ rfl (bV BR10.out) Tryd.underlying57 rfl (by kernel_rfl)) rfl ?_
  refine ParsedPost.mk0 HVD.out rfl ?_ (bH HB10.out)
  refine Kd.R_mono (ok := fun k => k = ka) ?_ (fun _ _ => trivial)
  refine litR ?_ (by have h1 := HKA.out; have h2 := HGC.out; omega)
  exact bK BK10.out
 ·skip
  with_reducible refine (Rdr.done1 g [] v2 kd (some ⟨ka, 0, none⟩) 1 1 0 0 ⟨#[]⟩ 0 xv false _ hD (bne_iff_ne.2 hvd)).mono ?_
  rintro e_ w10 ⟨rfl, hB⟩
  have BR10 := Aside0.mk (blk_below BRp hB); have HB10 := Aside0.mk (below_step HBp hB); clear hB hD
  have HVD : Aside0 (¬ v2 = 0) := ⟨hvd⟩; clear hvd; obtain ⟨hcy, hfy⟩ := d11 BR10; go_wp2; have N5 : Aside0 (w.heap.size ≤ w.heap.size) := ⟨Nat.le_refl _⟩; refine bodyPost_ret (results_cell_row rfl _ _ w.heap.size 57 #[.int .i64 v2, .int .i64 0, .slice none 0 0, .int .u32 0, .int .i64 0, .string ⟨#[]⟩, .int .u64 0, .int .u64 0, .bool false, .int .i64 0, .int .i64 0] (0, 0) _ rfl (bV BR10.out) Tryd.underlying57 rfl (by kernel_rfl)) rfl ?_
  exact ParsedPost.mk1 HVD.out (bH HB10.out)
set_option maxHeartbeats 2000000 in
set_option maxRecDepth 100000 in
theorem line_Parse.decr_q (k : Nat) (s w0 : ByteArray) (wt : List ByteArray) (kd : Int) (a x : ByteArray) (kb : Bool) (v1 xv xe v2 : Int) (w : World) (hL : LdS w) (hs : ¬ 160 < s.size) (hw : line_Words.f s = some (w0 :: wt)) (hk : verb_Kind.f w0 = some kd) (hk0 : ¬ kd = 0) (hkd : ¬ kd ≤ 4) (hwd : line_words.v kd = 3) (hln : wt.length = 3) (HLW : wt.getD 2 ByteArray.empty = (⟨#[110, 111, 114, 101, 112, 108, 121]⟩ : ByteArray)) (hst : verb_Stores.f kd = some false) (hkk : kd = 13) (hlt_ : wt.take 2 = [a, x]) (hky : fnv_Key.f k a = some kb) (hv1 : wrV (!kb) 4 0 = v1) (hxx : digits_Parse.f x = some (xv, xe)) (hv2 : wrV (xe != 0 || decide ((18446744073709551615 : Int) < xv)) 6 v1 = v2) :
  Calls Tryd.prog 22 #[.string s] w (ParsedPost w (dnV v2 kd [a] 0 xv true)) := by
 have b14 : (kd == 14) = false := beq_eq_false_iff_ne.2 (by omega); have b12 : (kd == 12) = false := beq_eq_false_iff_ne.2 (by omega); have b13 : (kd == 13) = true := beq_iff_eq.2 hkk
 have HL := Aside0.mk hL; have HST := Aside0.mk hst; have HLT := Aside0.mk hlt_; clear hL hst hkk hlt_
 have HKY := Aside0.mk hky; have HV1 := Aside0.mk hv1; clear hky hv1
 have HXX := Aside0.mk hxx; have HV2 := Aside0.mk hv2; clear hxx hv2
 have hk0 : (kd == 0) = false := beq_eq_false_iff_ne.2 hk0; have hk4 : decide (kd ≤ 4) = false := decide_eq_false hkd; have HWD := Aside0.mk hwd; clear hkd hwd
 have HLN := Aside0.mk hln; clear hln
 have h160 : decide (160 < s.size) = false := decide_eq_false (by omega); have h161 : decide ((160 : Int) < (s.size : Int)) = false := decide_eq_false (by omega); clear hs; obtain ⟨ws, hws⟩ : ∃ ws : List ByteArray, ws = w0 :: wt := ⟨_, rfl⟩; rw [← hws] at hw
 have HK := Aside0.mk hk; clear hk
 have HW := Aside0.mk hw; clear hw
 go_enter Tryd.func22, Tryd.ntmps22
 go_wp2_with (first | fail)
 have BR0 := blk_new w (.cells #[.int .i64 0, .int .i64 0, .slice none 0 0, .int .u32 0, .int .i64 0, .string ⟨#[]⟩, .int .u64 0, .int .u64 0, .bool false, .int .i64 0, .int .i64 0] 57); have HB0 := eA (Below.refl w.heap.size w) (.cells #[.int .i64 0, .int .i64 0, .slice none 0 0, .int .u32 0, .int .i64 0, .string ⟨#[]⟩, .int .u64 0, .int .u64 0, .bool false, .int .i64 0, .int .i64 0] 57)
 have hs0 : (w.alloc (.cells #[.int .i64 0, .int .i64 0, .slice none 0 0, .int .u32 0, .int .i64 0, .string ⟨#[]⟩, .int .u64 0, .int .u64 0, .bool false, .int .i64 0, .int .i64 0] 57)).heap.size = w.heap.size + 1 := by simp
 generalize (w.alloc (.cells #[.int .i64 0, .int .i64 0, .slice none 0 0, .int .u32 0, .int .i64 0, .string ⟨#[]⟩, .int .u64 0, .int .u64 0, .bool false, .int .i64 0, .int .i64 0] 57)) = W0 at BR0 HB0 hs0 ⊢
 with_reducible refine (line_Words.calls s ws _ HW.out).mono ?_
 rintro e_ w1 ⟨v0, rfl, hR, hB⟩
 obtain ⟨A0, c0, rfl, hc0, hC⟩ := Kd.R_reads hR; have BR := Aside0.mk (blk_below BR0 hB); have HB := Aside0.mk (below_step HB0 hB)
 have hlt : w.heap.size < w1.heap.size := blk_lt BR.out
 have HC := Aside0.mk hC; have HCc := Aside0.mk hc0; have HMX := Aside0.mk (Kd.F_max (Kd.C_F Kd.heap_string hC))
 clear BR0 HB0 hs0 hR hB hC hc0; obtain ⟨n, hn⟩ : ∃ n, n = wt.length := ⟨_, rfl⟩; have hl : ws.length = n + 1 := by rw [hws, hn]; rfl
 rw [hl] at HC HCc HMX ⊢; have HCW := Aside0.mk (show Kd.C Kd.string w1 A0 (n + 1) (w0 :: wt) by rw [← hws]; exact HC.out); have HN := Aside0.mk hn; clear HC hws hl hn HW
 obtain ⟨ad, rfl, hcell⟩ := Kd.at_string HCW.out (0 : Int) (by omega) (by omega); have hx0 : w1.cell? ad = some (.string w0) := by simpa [Addr.add, rdOf] using hcell
 clear hcell; have hn0 : 0 < n + 1 := by omega
 go_wp2_with (first | fail)
 with_reducible refine (verb_Kind.calls w0 kd _ HK.out).mono ?_
 rintro e_ w2 ⟨rfl, hB⟩
 have BR2 := Aside0.mk (blk_below BR.out hB); have HB2 := Aside0.mk (below_step HB.out hB); have HF2 := Aside0.mk (Kd.F_below (Kd.C_F Kd.heap_string HCW.out) hB); have hlt2 : w.heap.size < w2.heap.size := blk_lt BR2.out; have hle2 : w1.heap.size ≤ w2.heap.size := hB.size
 clear hB BR HB hlt HCW hx0 hn0; obtain rfl : n = 3 := by have h1 := HN.out; have h2 := HLN.out; omega
 obtain ⟨A1, hcut0, hcutF⟩ := cutF (some ad) (4) c0 1 (by omega); have hcut : ∀ W : World, (Instr.slice 34 (.slice (some ad) (4) c0) (some (.int .i64 1)) none none).run Tryd.prog W = .ok (.slice A1 3 (c0 - 1)) W := fun W => by simpa using hcut0 W
 have HF3 := Aside0.mk (show Kd.F Kd.string w2 (fun b => b < w1.heap.size) A1 wt.length wt from hcutF w2 (fun b => b < w1.heap.size) (w0 :: wt) (by have h := HN.out; rw [List.length_cons, ← h]) HCc.out (by have h := HF2.out; have h2 := HN.out; have e : (w0 :: wt).length = 4 := (by rw [List.length_cons, ← h2]); rw [e]; exact h)); have HC3 : Aside0 (wt.length ≤ c0 - 1) := ⟨by have h1 := HCc.out; have h2 := HN.out; omega⟩; have hc1 := HCc.out; clear hcut0 hcutF
 go_wp2_with (first | fail)
 have hlw2 : line_words.f kd = some 3 := by unfold line_words.f; rw [HWD.out]
 have HW2 := Aside0.mk hlw2; clear hlw2
 have BRa := bA BR2.out (.cells #[.int .i64 kd, .slice none 0 0, .int .u32 0, .int .i64 0, .string ⟨#[]⟩, .int .u64 0, .int .u64 0, .bool false] 37); have HBa := eA HB2.out (.cells #[.int .i64 kd, .slice none 0 0, .int .u32 0, .int .i64 0, .string ⟨#[]⟩, .int .u64 0, .int .u64 0, .bool false] 37); have HFa := Kd.F_alloc HF3.out (.cells #[.int .i64 kd, .slice none 0 0, .int .u32 0, .int .i64 0, .string ⟨#[]⟩, .int .u64 0, .int .u64 0, .bool false] 37); have BCa := blk_new w2 (.cells #[.int .i64 kd, .slice none 0 0, .int .u32 0, .int .i64 0, .string ⟨#[]⟩, .int .u64 0, .int .u64 0, .bool false] 37)
 have hlta : w.heap.size ≠ w2.heap.size := by omega
 have hle : w1.heap.size ≤ w2.heap.size := hle2; have hltc : w.heap.size < w2.heap.size := hlt2
 generalize hcb : w2.heap.size = cb at BCa hlta hle hltc ⊢; generalize (w2.alloc (.cells #[.int .i64 kd, .slice none 0 0, .int .u32 0, .int .i64 0, .string ⟨#[]⟩, .int .u64 0, .int .u64 0, .bool false] 37)) = W3 at BRa HBa HFa BCa ⊢
 with_reducible refine (line_words.calls kd 3 _ HW2.out).mono ?_
 rintro e_ w3 ⟨rfl, ⟨nd, rfl⟩⟩
 have BR3 := Aside0.mk (bN BRa nd); have HB3 := Aside0.mk (eN HBa nd); have HF3' := Aside0.mk (Kd.F_drewN HFa nd); have BC3 := Aside0.mk (bN BCa nd)
 clear BRa HBa HFa BCa BR2 HB2 HF2 HF3 HW2 hlt2; generalize (W3.drewN nd) = w3 at BR3 HB3 HF3' BC3 ⊢; have hcl3 : cb < w3.heap.size := blk_lt BC3.out; have hrl3 : w.heap.size < w3.heap.size := blk_lt BR3.out
 obtain ⟨ad1, rfl, hcl⟩ := Kd.at_string (Kd.F_now HF3'.out) (2 : Int) (by omega) (by rw [HLN.out]; omega); have hxl : w3.cell? ⟨ad1.block, ad1.off + 2, none⟩ = some (.string (wt.getD 2 ByteArray.empty)) := by simpa [Addr.add, rdOf] using hcl
 clear hcl; rw [HLW] at hxl; have hf7 : w3.frozen? ⟨cb, 7, none⟩ = false := blk_frozen BC3.out 7; have hc7 : w3.cell? ⟨cb, 7, none⟩ = some (.bool false) := (blk_cell BC3.out 7).trans rfl
 have htk : ∀ W : World, (Instr.slice 34 (.slice (some ad1) 3 (c0 - 1)) none (some (.int .i64 2)) none).run Tryd.prog W = .ok (.slice (some ad1) 2 (c0 - 1)) W := fun W => by simpa using takeF (some ad1) 3 (c0 - 1) 2 (by omega) (by omega) W
 go_wp2_with (first | fail)
 have BR4 := Aside0.mk (blk_far (p := ⟨cb, 7, none⟩) BR3.out hlta (.bool true)); have BC4 := Aside0.mk (blk_set BC3.out 7 (.bool true)); have HB4 := Aside0.mk (eS (g := cb) (j := 7) (v := .bool true) HB3.out (by omega)); have HF4 := Aside0.mk (Kd.F_far (p := ⟨cb, 7, none⟩) (show Kd.F Kd.string w3 (fun b => b < w1.heap.size) (some ad1) (wt.take 2).length (wt.take 2) from Kd.F_take HF3'.out (by rw [HLN.out]; omega)) (fun b hb => by have h : b < w1.heap.size := hb; show b ≠ cb; omega) (.bool true))
 have HLL : Aside0 ((wt.take 2).length = 2) := ⟨by rw [List.length_take, HLN.out]; rfl⟩; rw [show ∀ (p0 p1 p2 p3 p4 p5 p6 p7 u : Value), (#[p0, p1, p2, p3, p4, p5, p6, p7] : Array Value).setIfInBounds 7 u = #[p0, p1, p2, p3, p4, p5, p6, u] from fun _ _ _ _ _ _ _ _ _ => rfl] at BC4; clear BR3 BC3 HB3 HF3' hxl hf7 hc7 htk hcl3 hrl3; generalize (w3.setCell ⟨cb, 7, none⟩ (.bool true)) = w4 at BR4 BC4 HB4 HF4 ⊢; generalize hls : wt.take 2 = ls at HF4 HLL; have HLS := Aside0.mk hls; clear hls
 obtain ⟨A4, hA4⟩ : ∃ A4, A4 = some ad1 := ⟨_, rfl⟩; rw [← hA4] at HF4 ⊢; clear hA4
 have HCX : Aside0 (2 ≤ c0 - 1) := ⟨by omega⟩; clear hc1
 with_reducible refine (verb_Stores.calls kd false _ HST.out).mono ?_
 rintro e_ w5 ⟨rfl, ⟨nd5, rfl⟩⟩
 have BR5 := bN BR4.out nd5; have HB5 := eN HB4.out nd5; have BC5 := bN BC4.out nd5; have HF5 := Kd.F_drewN HF4.out nd5
 clear BR4 HB4 BC4 HF4; generalize (w4.drewN nd5) = w5 at BR5 HB5 BC5 HF5 ⊢; have hlsv := HLS.out; rw [HLT.out] at hlsv; subst hlsv
 have HI0 := Rdr.new (ok := fun b => b < w1.heap.size) (W := w5) (A := A4) (c := c0 - 1) (f0 := [a, x]) 0 HCX.out HF5 (fun b hb => by have h : b < w1.heap.size := hb; have h2 := blk_lt BC5; omega); have BR6 := Aside0.mk (bA BR5 (.cells #[.slice A4 2 (c0 - 1), .int .i64 0] 71)); have BC6 := Aside0.mk (bA BC5 (.cells #[.slice A4 2 (c0 - 1), .int .i64 0] 71)); have HB6 := Aside0.mk (eA HB5 (.cells #[.slice A4 2 (c0 - 1), .int .i64 0] 71))
 have hcg : cb < w5.heap.size := blk_lt BC5
 have HI6 : Aside0 (Rdr (fun b => b < w1.heap.size) (w5.alloc (.cells #[.slice A4 2 (c0 - 1), .int .i64 0] 71)) w5.heap.size [a, x] 0) := ⟨HI0⟩; obtain ⟨g, hg⟩ : ∃ g, g = w5.heap.size := ⟨_, rfl⟩; clear BR5 HB5 BC5 HF5 HI0
 go_wp2_with (first | fail)
 rw [← hg] at HI6 hcg ⊢; clear hg
 generalize (w5.alloc (.cells #[.slice A4 2 (c0 - 1), .int .i64 0] 71)) = w6 at BR6 BC6 HB6 HI6 ⊢; have HGC : Aside0 (w.heap.size < cb ∧ cb < g ∧ w1.heap.size ≤ cb) := ⟨hltc, hcg, hle⟩; clear hcg
 with_reducible refine (Rdr.key (ok := fun b => b < w1.heap.size) k g a [x] 0 kb w _ HI6.out HB6.out (by have := HGC.out; omega) HKY.out).mono ?_
 rintro e_ w7 ⟨rfl, hI, hB, hK⟩
 rw [HV1.out] at hI; have BC7 := Aside0.mk (blk_keep BC6.out hK (by have := HGC.out; omega)); have BR7 := Aside0.mk (blk_keep BR6.out hK (by have := HGC.out; omega)); have HB7 := Aside0.mk hB; have HI7 := Aside0.mk hI
 clear BC6 BR6 HB6 HI6 hI hB hK; obtain ⟨hc7, hf7⟩ := d8 BC7; have hl7 : cb < w7.heap.size := blk_lt BC7.out; have hg7 : g < w7.heap.size := HI7.out.lt
 go_wp2_with (first | fail)
 obtain ⟨ka, hka⟩ : ∃ ka, ka = w7.heap.size := ⟨_, rfl⟩; rw [← hka] at hl7 hg7 ⊢; have BC8 := bA (blk_set BC7.out 1 (.slice (some ⟨ka, 0, none⟩) 1 1)) (.cells #[.string a] 9); have BR8 := bA (blk_far (p := ⟨cb, 1, none⟩) BR7.out (by show w.heap.size ≠ cb; have := HGC.out; omega) (.slice (some ⟨ka, 0, none⟩) 1 1)) (.cells #[.string a] 9); have BK8 := blk_new (w7.setCell ⟨cb, 1, none⟩ (.slice (some ⟨ka, 0, none⟩) 1 1)) (.cells #[.string a] 9); rw [show (w7.setCell ⟨cb, 1, none⟩ (.slice (some ⟨ka, 0, none⟩) 1 1)).heap.size = ka by rw [hka]; simp] at BK8; have HI8 := (Rdr.far (p := ⟨cb, 1, none⟩) HI7.out (by show g ≠ cb; have := HGC.out; omega) (fun b hb => by show b ≠ cb; have h1 : b < w1.heap.size := hb; have := HGC.out; omega) (.slice (some ⟨ka, 0, none⟩) 1 1)).below (eA (Below.refl _ _) (.cells #[.string a] 9)); have HB8 := eA (eS (g := cb) (j := 1) (v := .slice (some ⟨ka, 0, none⟩) 1 1) HB7.out (by have := HGC.out; omega)) (.cells #[.string a] 9); rw [show ∀ (p0 p1 p2 p3 p4 p5 p6 p7 u : Value), (#[p0, p1, p2, p3, p4, p5, p6, p7] : Array Value).setIfInBounds 1 u = #[p0, u, p2, p3, p4, p5, p6, p7] from fun _ _ _ _ _ _ _ _ _ => rfl] at BC8; clear hf7 hc7 hka BC7 BR7 HB7 HI7; generalize ((w7.setCell ⟨cb, 1, none⟩ (.slice (some ⟨ka, 0, none⟩) 1 1)).alloc (.cells #[.string a] 9)) = w8 at BC8 BR8 BK8 HI8 HB8 ⊢; have HKA : Aside0 (g ≠ ka ∧ cb < ka) := ⟨by omega, hl7⟩; clear hl7 hg7
 have BC8 := Aside0.mk BC8; have BR8 := Aside0.mk BR8; have BK8 := Aside0.mk BK8; have HI8 := Aside0.mk HI8; have HB8 := Aside0.mk HB8
 with_reducible refine (Rdr.number (ok := fun b => b < w1.heap.size) g x [] v1 xv xe 18446744073709551615 6 w _ HI8.out HB8.out (by have := HGC.out; omega) HL.out HXX.out).mono ?_
 rintro e_ w9 ⟨rfl, hI, hB, hK⟩
 rw [HV2.out] at hI; have BC9 := Aside0.mk (blk_keep BC8.out hK (by have := HGC.out; omega)); have BR9 := Aside0.mk (blk_keep BR8.out hK (by have := HGC.out; omega)); have BK9 := Aside0.mk (blk_keep BK8.out hK (fun e_ => HKA.out.1 e_.symm)); have HB9 := Aside0.mk hB; have HI9 := Aside0.mk hI
 clear BC8 BR8 BK8 HB8 HI8 hI hB hK; obtain ⟨hcz, hfz⟩ := d8 BC9
 go_wp2_with (first | fail)
 have hD := HI9.out.far (p := ⟨cb, 6, none⟩) (by show g ≠ cb; have := HGC.out; omega) (fun b hb => by show b ≠ cb; have h1 : b < w1.heap.size := hb; have := HGC.out; omega) (.int .u64 xv); have BRp := blk_far (p := ⟨cb, 6, none⟩) BR9.out (by show w.heap.size ≠ cb; have := HGC.out; omega) (.int .u64 xv); have BKp := blk_far (p := ⟨cb, 6, none⟩) BK9.out (by show ka ≠ cb; have := HKA.out; omega) (.int .u64 xv); have HBp := eS (g := cb) (j := 6) (v := .int .u64 xv) HB9.out (by have := HGC.out; omega); clear hcz hfz
 by_cases hvd : v2 = 0
 ·skip
  rw [hvd] at hD
  with_reducible refine (Rdr.done0 g [] kd (some ⟨ka, 0, none⟩) 1 1 0 0 ⟨#[]⟩ 0 xv true _ hD).mono ?_
  rintro e_ w10 ⟨rfl, hB⟩
  have BR10 := Aside0.mk (blk_below BRp hB); have HB10 := Aside0.mk (below_step HBp hB); have BK10 := Aside0.mk (blk_below BKp hB); clear hB hD
  have HVD : Aside0 (v2 = 0) := ⟨hvd⟩; clear hvd; obtain ⟨hcy, hfy⟩ := d11 BR10; go_wp2; have N5 : Aside0 (w.heap.size ≤ w.heap.size) := ⟨Nat.le_refl _⟩; have N2 : Aside0 (ka ≠ w.heap.size) := ⟨by have h1 := HKA.out; have h2 := HGC.out; omega⟩; refine bodyPost_ret (results_cell_row rfl _ _ w.heap.size 57 #[.int .i64 1, .int .i64 kd, .slice (some ⟨ka, 0, none⟩) 1 1, .int .u32 0, .int .i64 0, .string ⟨#[]⟩, .int .u64 0, .int .u64 xv, .bool true, .int .i64 0, .int .i64 0] (0, 0) _ rfl (bV BR10.out) Tryd.underlying57 rfl (by kernel_rfl)) rfl ?_
  refine ParsedPost.mk0 HVD.out rfl ?_ (bH HB10.out)
  refine Kd.R_mono (ok := fun k => k = ka) ?_ (fun _ _ => trivial)
  refine litR ?_ (by have h1 := HKA.out; have h2 := HGC.out; omega)
  exact bK BK10.out
 ·skip
  with_reducible refine (Rdr.done1 g [] v2 kd (some ⟨ka, 0, none⟩) 1 1 0 0 ⟨#[]⟩ 0 xv true _ hD (bne_iff_ne.2 hvd)).mono ?_
  rintro e_ w10 ⟨rfl, hB⟩
  have BR10 := Aside0.mk (blk_below BRp hB); have HB10 := Aside0.mk (below_step HBp hB); clear hB hD
  have HVD : Aside0 (¬ v2 = 0) := ⟨hvd⟩; clear hvd; obtain ⟨hcy, hfy⟩ := d11 BR10; go_wp2; have N5 : Aside0 (w.heap.size ≤ w.heap.size) := ⟨Nat.le_refl _⟩; refine bodyPost_ret (results_cell_row rfl _ _ w.heap.size 57 #[.int .i64 v2, .int .i64 0, .slice none 0 0, .int .u32 0, .int .i64 0, .string ⟨#[]⟩, .int .u64 0, .int .u64 0, .bool false, .int .i64 0, .int .i64 0] (0, 0) _ rfl (bV BR10.out) Tryd.underlying57 rfl (by kernel_rfl)) rfl ?_
  exact ParsedPost.mk1 HVD.out (bH HB10.out)
set_option maxHeartbeats 2000000 in
set_option maxRecDepth 100000 in
theorem line_Parse.decr_e (k : Nat) (s w0 : ByteArray) (wt : List ByteArray) (kd : Int) (a x : ByteArray) (kb : Bool) (v1 xv xe v2 : Int) (w : World) (hL : LdS w) (hs : ¬ 160 < s.size) (hw : line_Words.f s = some (w0 :: wt)) (hk : verb_Kind.f w0 = some kd) (hk0 : ¬ kd = 0) (hkd : ¬ kd ≤ 4) (hwd : line_words.v kd = 3) (hln : wt.length = 2) (hst : verb_Stores.f kd = some false) (hkk : kd = 13) (hlt_ : wt = [a, x]) (hky : fnv_Key.f k a = some kb) (hv1 : wrV (!kb) 4 0 = v1) (hxx : digits_Parse.f x = some (xv, xe)) (hv2 : wrV (xe != 0 || decide ((18446744073709551615 : Int) < xv)) 6 v1 = v2) :
  Calls Tryd.prog 22 #[.string s] w (ParsedPost w (dnV v2 kd [a] 0 xv false)) := by
 have b14 : (kd == 14) = false := beq_eq_false_iff_ne.2 (by omega); have b12 : (kd == 12) = false := beq_eq_false_iff_ne.2 (by omega); have b13 : (kd == 13) = true := beq_iff_eq.2 hkk
 have HL := Aside0.mk hL; have HST := Aside0.mk hst; have HLT := Aside0.mk hlt_; clear hL hst hkk hlt_
 have HKY := Aside0.mk hky; have HV1 := Aside0.mk hv1; clear hky hv1
 have HXX := Aside0.mk hxx; have HV2 := Aside0.mk hv2; clear hxx hv2
 have hk0 : (kd == 0) = false := beq_eq_false_iff_ne.2 hk0; have hk4 : decide (kd ≤ 4) = false := decide_eq_false hkd; have HWD := Aside0.mk hwd; clear hkd hwd
 have h160 : decide (160 < s.size) = false := decide_eq_false (by omega); have h161 : decide ((160 : Int) < (s.size : Int)) = false := decide_eq_false (by omega); clear hs; obtain ⟨ws, hws⟩ : ∃ ws : List ByteArray, ws = w0 :: wt := ⟨_, rfl⟩; rw [← hws] at hw
 have HK := Aside0.mk hk; clear hk
 have HW := Aside0.mk hw; clear hw
 go_enter Tryd.func22, Tryd.ntmps22
 go_wp2_with (first | fail)
 have BR0 := blk_new w (.cells #[.int .i64 0, .int .i64 0, .slice none 0 0, .int .u32 0, .int .i64 0, .string ⟨#[]⟩, .int .u64 0, .int .u64 0, .bool false, .int .i64 0, .int .i64 0] 57); have HB0 := eA (Below.refl w.heap.size w) (.cells #[.int .i64 0, .int .i64 0, .slice none 0 0, .int .u32 0, .int .i64 0, .string ⟨#[]⟩, .int .u64 0, .int .u64 0, .bool false, .int .i64 0, .int .i64 0] 57)
 have hs0 : (w.alloc (.cells #[.int .i64 0, .int .i64 0, .slice none 0 0, .int .u32 0, .int .i64 0, .string ⟨#[]⟩, .int .u64 0, .int .u64 0, .bool false, .int .i64 0, .int .i64 0] 57)).heap.size = w.heap.size + 1 := by simp
 generalize (w.alloc (.cells #[.int .i64 0, .int .i64 0, .slice none 0 0, .int .u32 0, .int .i64 0, .string ⟨#[]⟩, .int .u64 0, .int .u64 0, .bool false, .int .i64 0, .int .i64 0] 57)) = W0 at BR0 HB0 hs0 ⊢
 with_reducible refine (line_Words.calls s ws _ HW.out).mono ?_
 rintro e_ w1 ⟨v0, rfl, hR, hB⟩
 obtain ⟨A0, c0, rfl, hc0, hC⟩ := Kd.R_reads hR; have BR := Aside0.mk (blk_below BR0 hB); have HB := Aside0.mk (below_step HB0 hB)
 have hlt : w.heap.size < w1.heap.size := blk_lt BR.out
 have HC := Aside0.mk hC; have HCc := Aside0.mk hc0; have HMX := Aside0.mk (Kd.F_max (Kd.C_F Kd.heap_string hC))
 clear BR0 HB0 hs0 hR hB hC hc0; obtain ⟨n, hn⟩ : ∃ n, n = wt.length := ⟨_, rfl⟩; have hl : ws.length = n + 1 := by rw [hws, hn]; rfl
 rw [hl] at HC HCc HMX ⊢; have HCW := Aside0.mk (show Kd.C Kd.string w1 A0 (n + 1) (w0 :: wt) by rw [← hws]; exact HC.out); have HN := Aside0.mk hn; clear HC hws hl hn HW
 obtain ⟨ad, rfl, hcell⟩ := Kd.at_string HCW.out (0 : Int) (by omega) (by omega); have hx0 : w1.cell? ad = some (.string w0) := by simpa [Addr.add, rdOf] using hcell
 clear hcell; have hn0 : 0 < n + 1 := by omega
 go_wp2_with (first | fail)
 with_reducible refine (verb_Kind.calls w0 kd _ HK.out).mono ?_
 rintro e_ w2 ⟨rfl, hB⟩
 have BR2 := Aside0.mk (blk_below BR.out hB); have HB2 := Aside0.mk (below_step HB.out hB); have HF2 := Aside0.mk (Kd.F_below (Kd.C_F Kd.heap_string HCW.out) hB); have hlt2 : w.heap.size < w2.heap.size := blk_lt BR2.out; have hle2 : w1.heap.size ≤ w2.heap.size := hB.size
 clear hB BR HB hlt HCW hx0 hn0; obtain rfl : n = 2 := by have h1 := HN.out; omega
 have HLE := Aside0.mk hln; clear hln
 obtain ⟨A1, hcut0, hcutF⟩ := cutF (some ad) (3) c0 1 (by omega); have hcut : ∀ W : World, (Instr.slice 34 (.slice (some ad) (3) c0) (some (.int .i64 1)) none none).run Tryd.prog W = .ok (.slice A1 2 (c0 - 1)) W := fun W => by simpa using hcut0 W
 have HF3 := Aside0.mk (show Kd.F Kd.string w2 (fun b => b < w1.heap.size) A1 wt.length wt from hcutF w2 (fun b => b < w1.heap.size) (w0 :: wt) (by have h := HN.out; rw [List.length_cons, ← h]) HCc.out (by have h := HF2.out; have h2 := HN.out; have e : (w0 :: wt).length = 3 := (by rw [List.length_cons, ← h2]); rw [e]; exact h)); have HC3 : Aside0 (wt.length ≤ c0 - 1) := ⟨by have h1 := HCc.out; have h2 := HN.out; omega⟩; have hc1 := HCc.out; clear hcut0 hcutF
 go_wp2_with (first | fail)
 have hlw2 : line_words.f kd = some 3 := by unfold line_words.f; rw [HWD.out]
 have HW2 := Aside0.mk hlw2; clear hlw2
 have BRa := bA BR2.out (.cells #[.int .i64 kd, .slice none 0 0, .int .u32 0, .int .i64 0, .string ⟨#[]⟩, .int .u64 0, .int .u64 0, .bool false] 37); have HBa := eA HB2.out (.cells #[.int .i64 kd, .slice none 0 0, .int .u32 0, .int .i64 0, .string ⟨#[]⟩, .int .u64 0, .int .u64 0, .bool false] 37); have HFa := Kd.F_alloc HF3.out (.cells #[.int .i64 kd, .slice none 0 0, .int .u32 0, .int .i64 0, .string ⟨#[]⟩, .int .u64 0, .int .u64 0, .bool false] 37); have BCa := blk_new w2 (.cells #[.int .i64 kd, .slice none 0 0, .int .u32 0, .int .i64 0, .string ⟨#[]⟩, .int .u64 0, .int .u64 0, .bool false] 37)
 have hlta : w.heap.size ≠ w2.heap.size := by omega
 have hle : w1.heap.size ≤ w2.heap.size := hle2; have hltc : w.heap.size < w2.heap.size := hlt2
 generalize hcb : w2.heap.size = cb at BCa hlta hle hltc ⊢; generalize (w2.alloc (.cells #[.int .i64 kd, .slice none 0 0, .int .u32 0, .int .i64 0, .string ⟨#[]⟩, .int .u64 0, .int .u64 0, .bool false] 37)) = W3 at BRa HBa HFa BCa ⊢
 with_reducible refine (line_words.calls kd 3 _ HW2.out).mono ?_
 rintro e_ w3 ⟨rfl, ⟨nd, rfl⟩⟩
 have BR3 := Aside0.mk (bN BRa nd); have HB3 := Aside0.mk (eN HBa nd); have HF3' := Aside0.mk (Kd.F_drewN HFa nd); have BC3 := Aside0.mk (bN BCa nd)
 clear BRa HBa HFa BCa BR2 HB2 HF2 HF3 HW2 hlt2; generalize (W3.drewN nd) = w3 at BR3 HB3 HF3' BC3 ⊢; have hcl3 : cb < w3.heap.size := blk_lt BC3.out; have hrl3 : w.heap.size < w3.heap.size := blk_lt BR3.out
 go_wp2_with (first | fail)
 have BR4 := BR3; have BC4 := BC3; have HB4 := HB3; have HF4 := HF3'; have HLL := HLE; clear BR3 BC3 HB3 HF3' hcl3 hrl3
 generalize w3 = w4 at BR4 BC4 HB4 HF4 ⊢; obtain ⟨A4, hA4⟩ : ∃ A4, A4 = A1 := ⟨_, rfl⟩; rw [← hA4] at HF4 ⊢; clear hA4 hcut
 generalize hls : wt = ls at HF4 HLL; have HLS := Aside0.mk hls; clear hls
 have HCX : Aside0 (2 ≤ c0 - 1) := ⟨by omega⟩; clear hc1
 with_reducible refine (verb_Stores.calls kd false _ HST.out).mono ?_
 rintro e_ w5 ⟨rfl, ⟨nd5, rfl⟩⟩
 have BR5 := bN BR4.out nd5; have HB5 := eN HB4.out nd5; have BC5 := bN BC4.out nd5; have HF5 := Kd.F_drewN HF4.out nd5
 clear BR4 HB4 BC4 HF4; generalize (w4.drewN nd5) = w5 at BR5 HB5 BC5 HF5 ⊢; have hlsv := HLS.out; rw [HLT.out] at hlsv; subst hlsv
 have HI0 := Rdr.new (ok := fun b => b < w1.heap.size) (W := w5) (A := A4) (c := c0 - 1) (f0 := [a, x]) 0 HCX.out HF5 (fun b hb => by have h : b < w1.heap.size := hb; have h2 := blk_lt BC5; omega); have BR6 := Aside0.mk (bA BR5 (.cells #[.slice A4 2 (c0 - 1), .int .i64 0] 71)); have BC6 := Aside0.mk (bA BC5 (.cells #[.slice A4 2 (c0 - 1), .int .i64 0] 71)); have HB6 := Aside0.mk (eA HB5 (.cells #[.slice A4 2 (c0 - 1), .int .i64 0] 71))
 have hcg : cb < w5.heap.size := blk_lt BC5
 have HI6 : Aside0 (Rdr (fun b => b < w1.heap.size) (w5.alloc (.cells #[.slice A4 2 (c0 - 1), .int .i64 0] 71)) w5.heap.size [a, x] 0) := ⟨HI0⟩; obtain ⟨g, hg⟩ : ∃ g, g = w5.heap.size := ⟨_, rfl⟩; clear BR5 HB5 BC5 HF5 HI0
 go_wp2_with (first | fail)
 rw [← hg] at HI6 hcg ⊢; clear hg
 generalize (w5.alloc (.cells #[.slice A4 2 (c0 - 1), .int .i64 0] 71)) = w6 at BR6 BC6 HB6 HI6 ⊢; have HGC : Aside0 (w.heap.size < cb ∧ cb < g ∧ w1.heap.size ≤ cb) := ⟨hltc, hcg, hle⟩; clear hcg
 with_reducible refine (Rdr.key (ok := fun b => b < w1.heap.size) k g a [x] 0 kb w _ HI6.out HB6.out (by have := HGC.out; omega) HKY.out).mono ?_
 rintro e_ w7 ⟨rfl, hI, hB, hK⟩
 rw [HV1.out] at hI; have BC7 := Aside0.mk (blk_keep BC6.out hK (by have := HGC.out; omega)); have BR7 := Aside0.mk (blk_keep BR6.out hK (by have := HGC.out; omega)); have HB7 := Aside0.mk hB; have HI7 := Aside0.mk hI
 clear BC6 BR6 HB6 HI6 hI hB hK; obtain ⟨hc7, hf7⟩ := d8 BC7; have hl7 : cb < w7.heap.size := blk_lt BC7.out; have hg7 : g < w7.heap.size := HI7.out.lt
 go_wp2_with (first | fail)
 obtain ⟨ka, hka⟩ : ∃ ka, ka = w7.heap.size := ⟨_, rfl⟩; rw [← hka] at hl7 hg7 ⊢; have BC8 := bA (blk_set BC7.out 1 (.slice (some ⟨ka, 0, none⟩) 1 1)) (.cells #[.string a] 9); have BR8 := bA (blk_far (p := ⟨cb, 1, none⟩) BR7.out (by show w.heap.size ≠ cb; have := HGC.out; omega) (.slice (some ⟨ka, 0, none⟩) 1 1)) (.cells #[.string a] 9); have BK8 := blk_new (w7.setCell ⟨cb, 1, none⟩ (.slice (some ⟨ka, 0, none⟩) 1 1)) (.cells #[.string a] 9); rw [show (w7.setCell ⟨cb, 1, none⟩ (.slice (some ⟨ka, 0, none⟩) 1 1)).heap.size = ka by rw [hka]; simp] at BK8; have HI8 := (Rdr.far (p := ⟨cb, 1, none⟩) HI7.out (by show g ≠ cb; have := HGC.out; omega) (fun b hb => by show b ≠ cb; have h1 : b < w1.heap.size := hb; have := HGC.out; omega) (.slice (some ⟨ka, 0, none⟩) 1 1)).below (eA (Below.refl _ _) (.cells #[.string a] 9)); have HB8 := eA (eS (g := cb) (j := 1) (v := .slice (some ⟨ka, 0, none⟩) 1 1) HB7.out (by have := HGC.out; omega)) (.cells #[.string a] 9); rw [show ∀ (p0 p1 p2 p3 p4 p5 p6 p7 u : Value), (#[p0, p1, p2, p3, p4, p5, p6, p7] : Array Value).setIfInBounds 1 u = #[p0, u, p2, p3, p4, p5, p6, p7] from fun _ _ _ _ _ _ _ _ _ => rfl] at BC8; clear hf7 hc7 hka BC7 BR7 HB7 HI7; generalize ((w7.setCell ⟨cb, 1, none⟩ (.slice (some ⟨ka, 0, none⟩) 1 1)).alloc (.cells #[.string a] 9)) = w8 at BC8 BR8 BK8 HI8 HB8 ⊢; have HKA : Aside0 (g ≠ ka ∧ cb < ka) := ⟨by omega, hl7⟩; clear hl7 hg7
 have BC8 := Aside0.mk BC8; have BR8 := Aside0.mk BR8; have BK8 := Aside0.mk BK8; have HI8 := Aside0.mk HI8; have HB8 := Aside0.mk HB8
 with_reducible refine (Rdr.number (ok := fun b => b < w1.heap.size) g x [] v1 xv xe 18446744073709551615 6 w _ HI8.out HB8.out (by have := HGC.out; omega) HL.out HXX.out).mono ?_
 rintro e_ w9 ⟨rfl, hI, hB, hK⟩
 rw [HV2.out] at hI; have BC9 := Aside0.mk (blk_keep BC8.out hK (by have := HGC.out; omega)); have BR9 := Aside0.mk (blk_keep BR8.out hK (by have := HGC.out; omega)); have BK9 := Aside0.mk (blk_keep BK8.out hK (fun e_ => HKA.out.1 e_.symm)); have HB9 := Aside0.mk hB; have HI9 := Aside0.mk hI
 clear BC8 BR8 BK8 HB8 HI8 hI hB hK; obtain ⟨hcz, hfz⟩ := d8 BC9
 go_wp2_with (first | fail)
 have hD := HI9.out.far (p := ⟨cb, 6, none⟩) (by show g ≠ cb; have := HGC.out; omega) (fun b hb => by show b ≠ cb; have h1 : b < w1.heap.size := hb; have := HGC.out; omega) (.int .u64 xv); have BRp := blk_far (p := ⟨cb, 6, none⟩) BR9.out (by show w.heap.size ≠ cb; have := HGC.out; omega) (.int .u64 xv); have BKp := blk_far (p := ⟨cb, 6, none⟩) BK9.out (by show ka ≠ cb; have := HKA.out; omega) (.int .u64 xv); have HBp := eS (g := cb) (j := 6) (v := .int .u64 xv) HB9.out (by have := HGC.out; omega); clear hcz hfz
 by_cases hvd : v2 = 0
 ·skip
  rw [hvd] at hD
  with_reducible refine (Rdr.done0 g [] kd (some ⟨ka, 0, none⟩) 1 1 0 0 ⟨#[]⟩ 0 xv false _ hD).mono ?_
  rintro e_ w10 ⟨rfl, hB⟩
  have BR10 := Aside0.mk (blk_below BRp hB); have HB10 := Aside0.mk (below_step HBp hB); have BK10 := Aside0.mk (blk_below BKp hB); clear hB hD
  have HVD : Aside0 (v2 = 0) := ⟨hvd⟩; clear hvd; obtain ⟨hcy, hfy⟩ := d11 BR10; go_wp2; have N5 : Aside0 (w.heap.size ≤ w.heap.size) := ⟨Nat.le_refl _⟩; have N2 : Aside0 (ka ≠ w.heap.size) := ⟨by have h1 := HKA.out; have h2 := HGC.out; omega⟩; refine bodyPost_ret (results_cell_row rfl _ _ w.heap.size 57 #[.int .i64 1, .int .i64 kd, .slice (some ⟨ka, 0, none⟩) 1 1, .int .u32 0, .int .i64 0, .string ⟨#[]⟩, .int .u64 0, .int .u64 xv, .bool false, .int .i64 0, .int .i64 0] (0, 0) _ rfl (bV BR10.out) Tryd.underlying57 rfl (by kernel_rfl)) rfl ?_
  refine ParsedPost.mk0 HVD.out rfl ?_ (bH HB10.out)
  refine Kd.R_mono (ok := fun k => k = ka) ?_ (fun _ _ => trivial)
  refine litR ?_ (by have h1 := HKA.out; have h2 := HGC.out; omega)
  exact bK BK10.out
 ·skip
  with_reducible refine (Rdr.done1 g [] v2 kd (some ⟨ka, 0, none⟩) 1 1 0 0 ⟨#[]⟩ 0 xv false _ hD (bne_iff_ne.2 hvd)).mono ?_
  rintro e_ w10 ⟨rfl, hB⟩
  have BR10 := Aside0.mk (blk_below BRp hB); have HB10 := Aside0.mk (below_step HBp hB); clear hB hD
  have HVD : Aside0 (¬ v2 = 0) := ⟨hvd⟩; clear hvd; obtain ⟨hcy, hfy⟩ := d11 BR10; go_wp2; have N5 : Aside0 (w.heap.size ≤ w.heap.size) := ⟨Nat.le_refl _⟩; refine bodyPost_ret (results_cell_row rfl _ _ w.heap.size 57 #[.int .i64 v2, .int .i64 0, .slice none 0 0, .int .u32 0, .int .i64 0, .string ⟨#[]⟩, .int .u64 0, .int .u64 0, .bool false, .int .i64 0, .int .i64 0] (0, 0) _ rfl (bV BR10.out) Tryd.underlying57 rfl (by kernel_rfl)) rfl ?_
  exact ParsedPost.mk1 HVD.out (bH HB10.out)

/-! ### line.Parse: all its ways together -/
def NRP : ByteArray := ⟨#[110, 111, 114, 101, 112, 108, 121]⟩
def line_Parse.own (k : Nat) (kd : Int) (q : Bool) (ws : List ByteArray) : Option (Int × Int × List ByteArray × Int × Int × ByteArray × Int × Int × Bool × Int × Int) :=
 if kd = 15 then some (dnV 0 kd [] 0 0 q) else
 match ws with
 | a :: t => (fnv_Key.f k a).bind fun kb => if kd = 11 then some (dnV (wrV (!kb) 4 0) kd [a] 0 0 q) else
  (match t with
  | x :: _ => if kd = 14 then ((digits_Signed.f k x).bind fun p => some (dnV (wrV (p.2 != 0) 7 (wrV (!kb) 4 0)) kd [a] p.1 0 q))
   else ((digits_Parse.f x).bind fun p => some (dnV (wrV (p.2 != 0 || decide ((18446744073709551615 : Int) < p.1)) 6 (wrV (!kb) 4 0)) kd [a] 0 p.1 q))
  | [] => none)
 | [] => none
def line_Parse.rest (k : Nat) (kd : Int) (q : Bool) (ws : List ByteArray) : Option (Int × Int × List ByteArray × Int × Int × ByteArray × Int × Int × Bool × Int × Int) := if kd ≤ 10 then line_stores.f k kd q ws else line_Parse.own k kd q ws
def line_Parse.nw (kd : Int) : Nat := if kd = 10 then 5 else if kd ≤ 9 then 4 else if kd = 11 then 1 else if kd ≤ 14 then 2 else 0
def line_Parse.f (k : Nat) (s : ByteArray) : Option (Int × Int × List ByteArray × Int × Int × ByteArray × Int × Int × Bool × Int × Int) :=
 if 160 < s.size then some (zP 9) else (line_Words.f s).bind fun ws => match ws with
  | [] => some (zP 3)
  | w0 :: wt => (verb_Kind.f w0).bind fun kd => if kd = 0 then some (zP 3) else if kd ≤ 4 then line_reads.f k kd wt else if 15 < kd then none else
   if wt.length = line_Parse.nw kd + 1 ∧ wt.getD (line_Parse.nw kd) ByteArray.empty = NRP then line_Parse.rest k kd true (wt.take (line_Parse.nw kd))
   else if wt.length = line_Parse.nw kd then line_Parse.rest k kd false wt else some (zP 3)
theorem stores_f (kd : Int) (h : 5 ≤ kd) : verb_Stores.f kd = some (decide (kd ≤ 10)) := by
 unfold verb_Stores.f; rw [if_pos (by omega)]
theorem nrp_ne {x : ByteArray} (h : ¬ x = NRP) : (x.toList == [110, 111, 114, 101, 112, 108, 121]) = false := by
 refine beq_eq_false_iff_ne.2 (fun he => h ?_)
 rw [ByteArray.toList_eq] at he; have h2 : x.data = #[110, 111, 114, 101, 112, 108, 121] := Array.toList_inj.1 he; cases x; exact congrArg ByteArray.mk h2
theorem two_of {l : List ByteArray} (h : l.length = 2) : ∃ a x, l = [a, x] := by
 match l, h with
 | [a, x], _ => exact ⟨a, x, rfl⟩
theorem one_of1 {l : List ByteArray} (h : l.length = 1) : ∃ a, l = [a] := by
 match l, h with
 | [a], _ => exact ⟨a, rfl⟩
theorem line_Parse.all (k : Nat) (s : ByteArray) (r : Int × Int × List ByteArray × Int × Int × ByteArray × Int × Int × Bool × Int × Int) (w : World) (h : line_Parse.f k s = some r) (hL : LdS w) : Calls Tryd.prog 22 #[.string s] w (ParsedPost w r) := by
 unfold line_Parse.f at h
 by_cases hs : 160 < s.size
 ·rw [if_pos hs] at h; obtain rfl := Option.some.inj h; exact line_Parse.long s w hs
 rw [if_neg hs] at h; obtain ⟨ws, hw, h⟩ := Option.bind_eq_some_iff.mp h; cases ws with
 | nil =>
  obtain rfl := Option.some.inj h; exact line_Parse.empty s w hs hw
 | cons w0 wt =>
  obtain ⟨kd, hk, h⟩ := Option.bind_eq_some_iff.mp h
  by_cases hk0 : kd = 0
  ·rw [if_pos hk0] at h; obtain rfl := Option.some.inj h; exact line_Parse.none_ s w0 wt kd w hs hw hk hk0
  rw [if_neg hk0] at h; obtain ⟨r1, r2, r3, r4, r5, r6, r7, r8, r9, r10, r11⟩ := r
  by_cases hk4 : kd ≤ 4
  ·rw [if_pos hk4] at h; exact line_Parse.reads k s w0 wt kd _ _ _ _ _ _ _ _ _ _ _ w hL hs hw hk hk0 hk4 h
  rw [if_neg hk4] at h
  by_cases hk15 : 15 < kd
  ·rw [if_pos hk15] at h; cases h
  rw [if_neg hk15] at h; have hst := stores_f kd (by omega)
  by_cases hq : wt.length = line_Parse.nw kd + 1 ∧ wt.getD (line_Parse.nw kd) ByteArray.empty = NRP
  ·rw [if_pos hq] at h; obtain ⟨hq1, hq2⟩ := hq; unfold line_Parse.rest at h
   by_cases h10 : kd ≤ 10
   ·rw [if_pos h10] at h; rw [decide_eq_true h10] at hst
    by_cases h9 : kd = 10
    ·have e : line_Parse.nw kd = 5 := by unfold line_Parse.nw; rw [if_pos h9]
     rw [e] at hq1 hq2 h; exact line_Parse.st5q k s w0 wt kd _ _ _ _ _ _ _ _ _ _ _ w hL hs hw hk hk0 hk4 (by unfold line_words.v; rw [if_pos h9]) hq1 hq2 hst h
    ·have e : line_Parse.nw kd = 4 := by unfold line_Parse.nw; rw [if_neg h9, if_pos (by omega)]
     rw [e] at hq1 hq2 h; exact line_Parse.st4q k s w0 wt kd _ _ _ _ _ _ _ _ _ _ _ w hL hs hw hk hk0 hk4 (by unfold line_words.v; rw [if_neg h9, if_pos (by omega)]) hq1 hq2 hst h
   ·rw [if_neg h10] at h; rw [decide_eq_false h10] at hst; unfold line_Parse.own at h
    by_cases h15 : kd = 15
    ·have e : line_Parse.nw kd = 0 := by unfold line_Parse.nw; rw [if_neg (by omega), if_neg (by omega), if_neg (by omega), if_neg (by omega)]
     rw [e] at hq1 hq2; rw [if_pos h15] at h; rw [← Option.some.inj h]; exact line_Parse.flush_q k s w0 wt kd w hL hs hw hk hk0 hk4 (by unfold line_words.v; rw [if_neg (by omega), if_neg (by omega), if_neg (by omega), if_neg (by omega)]; try rfl) hq1 hq2 hst h15 rfl
    rw [if_neg h15] at h
    by_cases h11 : kd = 11
    ·have e : line_Parse.nw kd = 1 := by unfold line_Parse.nw; rw [if_neg (by omega), if_neg (by omega), if_pos h11]
     rw [e] at hq1 hq2 h; obtain ⟨a, ha⟩ := one_of1 (show (wt.take 1).length = 1 by rw [List.length_take]; omega); rw [ha] at h; obtain ⟨kb, hkb, h⟩ := Option.bind_eq_some_iff.mp h; rw [if_pos h11] at h; rw [← Option.some.inj h]; exact line_Parse.delete_q k s w0 wt kd a kb _ w hL hs hw hk hk0 hk4 (by unfold line_words.v; rw [if_neg (by omega), if_neg (by omega), if_neg (by omega), if_pos h11]; try rfl) hq1 hq2 hst h11 ha hkb rfl
    have e : line_Parse.nw kd = 2 := by unfold line_Parse.nw; rw [if_neg (by omega), if_neg (by omega), if_neg h11, if_pos (by omega)]
    have e2 : line_words.v kd = 2 + 1 := by unfold line_words.v; rw [if_neg (by omega), if_neg (by omega), if_pos (by omega)]; try rfl
    rw [e] at hq1 hq2 h; obtain ⟨a, x, ha⟩ := two_of (show (wt.take 2).length = 2 by rw [List.length_take]; omega); rw [ha] at h; obtain ⟨kb, hkb, h⟩ := Option.bind_eq_some_iff.mp h; rw [if_neg h11] at h
    by_cases h14 : kd = 14
    ·dsimp only at h; rw [if_pos h14] at h
     obtain ⟨⟨xv, xe⟩, hx, h⟩ := Option.bind_eq_some_iff.mp h; rw [← Option.some.inj h]; exact line_Parse.touch_q k s w0 wt kd a x kb _ xv xe _ w hL hs hw hk hk0 hk4 e2 hq1 hq2 hst h14 ha hkb rfl hx rfl
    ·dsimp only at h; rw [if_neg h14] at h
     obtain ⟨⟨xv, xe⟩, hx, h⟩ := Option.bind_eq_some_iff.mp h; rw [← Option.some.inj h]
     by_cases h12 : kd = 12
     ·exact line_Parse.incr_q k s w0 wt kd a x kb _ xv xe _ w hL hs hw hk hk0 hk4 e2 hq1 hq2 hst h12 ha hkb rfl hx rfl
     ·exact line_Parse.decr_q k s w0 wt kd a x kb _ xv xe _ w hL hs hw hk hk0 hk4 e2 hq1 hq2 hst (by omega) ha hkb rfl hx rfl
  ·rw [if_neg hq] at h
   by_cases hq1 : wt.length = line_Parse.nw kd
   ·rw [if_pos hq1] at h; unfold line_Parse.rest at h
    by_cases h10 : kd ≤ 10
    ·rw [if_pos h10] at h; rw [decide_eq_true h10] at hst
     by_cases h9 : kd = 10
     ·have e : line_Parse.nw kd = 5 := by unfold line_Parse.nw; rw [if_pos h9]
      rw [e] at hq1; exact line_Parse.st5e k s w0 wt kd _ _ _ _ _ _ _ _ _ _ _ w hL hs hw hk hk0 hk4 (by unfold line_words.v; rw [if_pos h9]) hq1 hst h
     ·have e : line_Parse.nw kd = 4 := by unfold line_Parse.nw; rw [if_neg h9, if_pos (by omega)]
      rw [e] at hq1; exact line_Parse.st4e k s w0 wt kd _ _ _ _ _ _ _ _ _ _ _ w hL hs hw hk hk0 hk4 (by unfold line_words.v; rw [if_neg h9, if_pos (by omega)]) hq1 hst h
    ·rw [if_neg h10] at h; rw [decide_eq_false h10] at hst; unfold line_Parse.own at h
     by_cases h15 : kd = 15
     ·have e : line_Parse.nw kd = 0 := by unfold line_Parse.nw; rw [if_neg (by omega), if_neg (by omega), if_neg (by omega), if_neg (by omega)]
      rw [e] at hq1; rw [if_pos h15] at h; rw [← Option.some.inj h]; exact line_Parse.flush_e k s w0 wt kd w hL hs hw hk hk0 hk4 (by unfold line_words.v; rw [if_neg (by omega), if_neg (by omega), if_neg (by omega), if_neg (by omega)]; try rfl) hq1 hst h15 (List.length_eq_zero_iff.1 hq1)
     rw [if_neg h15] at h
     by_cases h11 : kd = 11
     ·have e : line_Parse.nw kd = 1 := by unfold line_Parse.nw; rw [if_neg (by omega), if_neg (by omega), if_pos h11]
      rw [e] at hq1; obtain ⟨a, ha⟩ := one_of1 hq1; rw [ha] at h; obtain ⟨kb, hkb, h⟩ := Option.bind_eq_some_iff.mp h; rw [if_pos h11] at h; rw [← Option.some.inj h]; exact line_Parse.delete_e k s w0 wt kd a kb _ w hL hs hw hk hk0 hk4 (by unfold line_words.v; rw [if_neg (by omega), if_neg (by omega), if_neg (by omega), if_pos h11]; try rfl) hq1 hst h11 ha hkb rfl
     have e : line_Parse.nw kd = 2 := by unfold line_Parse.nw; rw [if_neg (by omega), if_neg (by omega), if_neg h11, if_pos (by omega)]
     have e2 : line_words.v kd = 2 + 1 := by unfold line_words.v; rw [if_neg (by omega), if_neg (by omega), if_pos (by omega)]; try rfl
     rw [e] at hq1; obtain ⟨a, x, ha⟩ := two_of hq1; rw [ha] at h; obtain ⟨kb, hkb, h⟩ := Option.bind_eq_some_iff.mp h; rw [if_neg h11] at h
     by_cases h14 : kd = 14
     ·dsimp only at h; rw [if_pos h14] at h
      obtain ⟨⟨xv, xe⟩, hx, h⟩ := Option.bind_eq_some_iff.mp h; rw [← Option.some.inj h]; exact line_Parse.touch_e k s w0 wt kd a x kb _ xv xe _ w hL hs hw hk hk0 hk4 e2 hq1 hst h14 ha hkb rfl hx rfl
     ·dsimp only at h; rw [if_neg h14] at h
      obtain ⟨⟨xv, xe⟩, hx, h⟩ := Option.bind_eq_some_iff.mp h; rw [← Option.some.inj h]
      by_cases h12 : kd = 12
      ·exact line_Parse.incr_e k s w0 wt kd a x kb _ xv xe _ w hL hs hw hk hk0 hk4 e2 hq1 hst h12 ha hkb rfl hx rfl
      ·exact line_Parse.decr_e k s w0 wt kd a x kb _ xv xe _ w hL hs hw hk hk0 hk4 e2 hq1 hst (by omega) ha hkb rfl hx rfl
   ·rw [if_neg hq1] at h; rw [← Option.some.inj h]; clear hst h
    by_cases h9 : kd = 10
    ·have e : line_Parse.nw kd = 5 := by unfold line_Parse.nw; rw [if_pos h9]
     have e2 : line_words.v kd = 5 + 1 := by unfold line_words.v; rw [if_pos h9]; try rfl
     rw [e] at hq hq1
     by_cases hq2 : wt.length = 5 + 1
     ·exact line_Parse.no5b k s w0 wt kd w hL hs hw hk hk0 hk4 e2 hq2 (nrp_ne (fun hx => hq ⟨hq2, hx⟩))
     ·exact line_Parse.no5m k s w0 wt kd w hL hs hw hk hk0 hk4 e2 hq2 hq1
    by_cases h99 : kd ≤ 9
    ·have e : line_Parse.nw kd = 4 := by unfold line_Parse.nw; rw [if_neg h9, if_pos h99]
     have e2 : line_words.v kd = 4 + 1 := by unfold line_words.v; rw [if_neg h9, if_pos (by omega)]; try rfl
     rw [e] at hq hq1
     by_cases hq2 : wt.length = 4 + 1
     ·exact line_Parse.no4b k s w0 wt kd w hL hs hw hk hk0 hk4 e2 hq2 (nrp_ne (fun hx => hq ⟨hq2, hx⟩))
     ·exact line_Parse.no4m k s w0 wt kd w hL hs hw hk hk0 hk4 e2 hq2 hq1
    by_cases h11 : kd = 11
    ·have e : line_Parse.nw kd = 1 := by unfold line_Parse.nw; rw [if_neg h9, if_neg h99, if_pos h11]
     have e2 : line_words.v kd = 1 + 1 := by unfold line_words.v; rw [if_neg h9, if_neg (by omega), if_neg (by omega), if_pos h11]; try rfl
     rw [e] at hq hq1
     by_cases hq2 : wt.length = 1 + 1
     ·exact line_Parse.no1b k s w0 wt kd w hL hs hw hk hk0 hk4 e2 hq2 (nrp_ne (fun hx => hq ⟨hq2, hx⟩))
     ·exact line_Parse.no1m k s w0 wt kd w hL hs hw hk hk0 hk4 e2 hq2 hq1
    by_cases h14 : kd ≤ 14
    ·have e : line_Parse.nw kd = 2 := by unfold line_Parse.nw; rw [if_neg h9, if_neg h99, if_neg h11, if_pos h14]
     have e2 : line_words.v kd = 2 + 1 := by unfold line_words.v; rw [if_neg h9, if_neg (by omega), if_pos (by omega)]; try rfl
     rw [e] at hq hq1
     by_cases hq2 : wt.length = 2 + 1
     ·exact line_Parse.no2b k s w0 wt kd w hL hs hw hk hk0 hk4 e2 hq2 (nrp_ne (fun hx => hq ⟨hq2, hx⟩))
     ·exact line_Parse.no2m k s w0 wt kd w hL hs hw hk hk0 hk4 e2 hq2 hq1
    ·have e : line_Parse.nw kd = 0 := by unfold line_Parse.nw; rw [if_neg h9, if_neg h99, if_neg h11, if_neg h14]
     have e2 : line_words.v kd = 0 + 1 := by unfold line_words.v; rw [if_neg h9, if_neg (by omega), if_neg (by omega), if_neg h11]; try rfl
     rw [e] at hq hq1
     by_cases hq2 : wt.length = 0 + 1
     ·exact line_Parse.no0b k s w0 wt kd w hL hs hw hk hk0 hk4 e2 hq2 (nrp_ne (fun hx => hq ⟨hq2, hx⟩))
     ·exact line_Parse.no0m k s w0 wt kd w hL hs hw hk hk0 hk4 e2 hq2 hq1
theorem line_Parse.calls (k : Nat) (a0 : ByteArray) (r1 : Int) (r2 : Int) (r3 : List ByteArray) (r4 : Int) (r5 : Int) (r6 : ByteArray) (r7 : Int) (r8 : Int) (r9 : Bool) (r10 : Int) (r11 : Int) (w : World) (h : line_Parse.f k a0 = some (r1, r2, r3, r4, r5, r6, r7, r8, r9, r10, r11)) (hL : LdS w) :
  Calls Tryd.prog 22 #[.string a0] w fun e w' => ∃ v2_ : Value, e = .returned (.agg #[.int .i64 r1, .int .i64 r2, v2_, .int .u32 r4, .int .i64 r5, .string r6, .int .u64 r7, .int .u64 r8, .bool r9, .int .i64 r10, .int .i64 r11]) ∧ Kd.R Kd.string 9 w' w.heap.size (fun _ => True) v2_ r3 ∧ Below w.heap.size w w' := line_Parse.all k a0 _ w h hL
theorem kvV.mono (k : Nat) : ∀ l vd, LeO (kvV k l vd) (kvV (k + 1) l vd)
 | [], _ => LeO.refl _
 | x :: xs, vd => by
  unfold kvV; exact LeO.bind (fnv_Key.mono _ _) (fun b => kvV.mono k xs _)
end Go.Proofs.YtginfaencjmhgaaDoor.P
