/- Lean functions for the Go functions that the laws of this seat use, and the proofs that the Go code computes them; conditions: the readings that each theorem names. Written by a program. -/
import Derived.Test.YtdgpagocccabdaaDoorPx0
import Derived.Test.YtdgpagocccabdaaDoorPx6
import Derived.Test.YtdgpagocccabdaaDoorPx15
import Derived.Test.YtdgpagocccabdaaDoorPx18
import Derived.Test.YtdgpagocccabdaaDoorPx21
import Derived.Test.YtdgpagocccabdaaDoorPx23
import Derived.Test.YtdgpagocccabdaaDoorShort
namespace Go.Proofs.YtdgpagocccabdaaDoor.P
open Go.RowKit Go.Proofs.YtdgpagocccabdaaDoorW.PrintWords Go.Proofs.YtdgpagocccabdaaDoorW.PrintLast Go.Proofs.YtdgpagocccabdaaDoorW.PrintMore
set_option linter.unusedVariables false
set_option linter.unusedSimpArgs false

-- HAND
-- FN tallboy/reply.Read
-- ROUNDS 1
-- MAKING 1
-- FAMS reply
-- LAID U
/-! ### reply.Read -/
def reply_Read.find (first : ByteArray) (ls : List ByteArray) : Nat → Nat → Option Nat
 | _, 0 => none
 | i, d + 1 => if (rdOf ByteArray.empty ls (i : Int)).toList ≠ [] ∧ (rdOf ByteArray.empty ls (i : Int)).toList = first.toList then some i else reply_Read.find first ls (i + 1) d
def reply_Read.hits (k : Nat) (kind : Int) (s : ByteArray) : Nat → ByteArray → List S60 → Option (Int × List S60 × Int × Int × Int)
 | 0, _, _ => none
 | d + 1, rest, hs => if hs.length ≤ 100 then (strings_CutPrefix.f rest (⟨#[69, 78, 68, 13, 10]⟩ : ByteArray)).bind fun c => if c.2 = true then some (1, hs, 0, wrap64 ((s.size : Int) - (c.1.size : Int)), 0) else (reply_hit.f k kind rest).bind fun h => if h.2.2.2.2.2 = true then reply_Read.hits k kind s d h.2.2.2.2.1 (hs ++ [⟨h.1, h.2.1, h.2.2.1, h.2.2.2.1⟩]) else some (0, [], 0, 0, 6) else some (0, [], 0, 0, 6)
def reply_Read.f (k : Nat) (a0 : Int) (a1 : ByteArray) : Option (Int × List S60 × Int × Int × Int) :=
 (strings_Cut.f a1 (⟨#[13, 10]⟩ : ByteArray)).bind fun c => if c.2.2 = true then (match reply_Read.find c.1 (reply_lines.l a0) 0 13 with
  | some i => some ((i : Int), [], 0, wrap64 ((a1.size : Int) - (c.2.1.size : Int)), 0)
  | none => (reply_number.f c.1 18446744073709551615).bind fun n => if n.2 = true then some (7, [], n.1, wrap64 ((a1.size : Int) - (c.2.1.size : Int)), 0) else reply_Read.hits k a0 a1 102 a1 []) else some (0, [], 0, 0, 6)
theorem reply_Read.mono_hits (k : Nat) (kind : Int) (s : ByteArray) : ∀ d rest hs, LeO (reply_Read.hits k kind s d rest hs) (reply_Read.hits (k + 1) kind s d rest hs)
 | 0, _, _ => LeO.refl _
 | d + 1, rest, hs => by
  unfold reply_Read.hits
  split
  ·refine LeO.bind (LeO.refl _) fun c => ?_
   split
   ·exact LeO.refl _
   ·refine LeO.bind (reply_hit.mono kind rest k) fun h => ?_
    split
    ·exact reply_Read.mono_hits k kind s d _ _
    ·exact LeO.refl _
  ·exact LeO.refl _
theorem reply_Read.mono (a0 : Int) (a1 : ByteArray) (k : Nat) : LeO (reply_Read.f k a0 a1) (reply_Read.f (k + 1) a0 a1) := by
 unfold reply_Read.f; refine LeO.bind (LeO.refl _) fun c => ?_
 split
 ·split
  ·exact LeO.refl _
  ·refine LeO.bind (LeO.refl _) fun n => ?_
   split
   ·exact LeO.refl _
   ·exact reply_Read.mono_hits k a0 a1 102 a1 []
 ·exact LeO.refl _
theorem info_hit : (Tryd.prog.info? 60).map (fun i => (i.zero, i.size, i.bytes)) = some (some (.agg #[.string ⟨#[]⟩, .int .u32 0, .string ⟨#[]⟩, .int .u64 0]), 4, 48) := by kernel_rfl
set_option maxHeartbeats 4000000 in
set_option maxRecDepth 100000 in
theorem reply_Read.calls (k : Nat) (a0 : Int) (a1 : ByteArray) (r1 : Int) (r2 : List S60) (r3 r4 r5 : Int) (w : World) (h : reply_Read.f k a0 a1 = some (r1, r2, r3, r4, r5)) (hL : LdU w) :
  Calls Tryd.prog 14 #[.int .i64 a0, .string a1] w fun e w' => ∃ v1_ : Value, e = .returned (.tuple #[.agg #[.int .i64 r1, v1_, .int .u64 r3], .int .i64 r4, .int .i64 r5]) ∧ Kd.R k60 60 w' w.heap.size (fun _ => True) v1_ r2 ∧ Below w.heap.size w w' := by
 have HL := Aside0.mk hL; have HB := Aside0.mk (Below.refl w.heap.size w); unfold reply_Read.f at h; obtain ⟨⟨first, rest0, ok⟩, hc, h⟩ := Option.bind_eq_some_iff.1 h; have HCUT := Aside0.mk hc; clear hL hc
 dsimp only at h
 cases ok with
 | false =>
  rw [if_neg (by decide)] at h; simp only [Option.some.injEq, Prod.mk.injEq] at h; obtain ⟨rfl, rfl, rfl, rfl, rfl⟩ := h; go_enter Tryd.func14, Tryd.ntmps14
  go_wp2_with (first | ((with_reducible refine gate_dst (N := 4) rfl ?_); (refine bE 4 #[.int .i64 0, .slice none 0 0, .int .u64 0] 30 rfl rfl ?_; intro g4 hg4 w4 hbox hb; have B4 := Aside0.mk hbox; have G4 := Aside0.mk (show w.heap.size ≤ g4 by rw [hg4]; exact HB.out.size); replace HB := Aside0.mk (below_step HB.out hb); clear hg4 hbox hb)) | (go_at_call 29; ((with_reducible refine (strings_Cut.calls a1 (⟨#[13, 10]⟩ : ByteArray) first rest0 false _ HCUT.out (HL.out.on HB.out)).mono ?_); rintro e w5 ⟨rfl, hb⟩; replace B4 := Aside0.mk (blk_below B4.out hb); replace HB := Aside0.mk (below_step HB.out hb); clear hb; obtain ⟨hcz4, hfz4⟩ := d3 B4)))
  refine bodyPost_ret (results_ctt rfl _ _ g4 30 #[.int .i64 0, .slice none 0 0, .int .u64 0] (0, 0) _ rfl (bV B4.out) Tryd.underlying30 rfl (by kernel_rfl)) rfl ?_
  exact ⟨_, rfl, Kd.R_nil _ _ _ _ _, bH HB.out⟩
 | true =>
  rw [if_pos rfl] at h; obtain ⟨F, hF⟩ : ∃ F, F = reply_Read.find first (reply_lines.l a0) 0 13 := ⟨_, rfl⟩
  rw [← hF] at h; have HF := Aside0.mk hF; have HH := Aside0.mk h; clear h hF; go_enter Tryd.func14, Tryd.ntmps14
  go_wp2_with (first | ((with_reducible refine gate_dst (N := 4) rfl ?_); (refine bE 4 #[.int .i64 0, .slice none 0 0, .int .u64 0] 30 rfl rfl ?_; intro g4 hg4 w4 hbox hb; have B4 := Aside0.mk hbox; have G4 := Aside0.mk (show w.heap.size ≤ g4 by rw [hg4]; exact HB.out.size); replace HB := Aside0.mk (below_step HB.out hb); clear hg4 hbox hb)) | (go_at_call 29; ((with_reducible refine (strings_Cut.calls a1 (⟨#[13, 10]⟩ : ByteArray) first rest0 true _ HCUT.out (HL.out.on HB.out)).mono ?_); rintro e w5 ⟨rfl, hb⟩; replace B4 := Aside0.mk (blk_below B4.out hb); replace HB := Aside0.mk (below_step HB.out hb); clear hb; obtain ⟨hcz4, hfz4⟩ := d3 B4)) | (go_at_call 22; ((with_reducible refine (reply_lines.calls a0 _).mono ?_); rintro e w6 ⟨rfl, hb⟩; replace B4 := Aside0.mk (blk_below B4.out hb); replace HB := Aside0.mk (below_step HB.out hb); clear hb; clear hcz4 hfz4)))
  go_loopg [29] 13 (fun q v29 wi => ∃ (i : Nat), wi = w6 ∧ v29 = .int .i64 (i : Int) ∧ Aside0 (q + i = 13) ∧ Aside0 (F = reply_Read.find first (reply_lines.l a0) i q))
  case atStart => exact ⟨0, rfl, rfl, ⟨rfl⟩, ⟨HF.out⟩⟩
  case round =>
   clear HF; obtain ⟨i, rfl, rfl, HQ, HF⟩ := hrel
   by_cases hi : i < 13
   ·obtain ⟨qo, hqo⟩ : ∃ qo, gk = qo + 1 := ⟨13 - i - 1, by have := HQ.out; omega⟩; subst hqo; have hi1 : decide ((i : Int) < 13) = true := decide_eq_true (by omega); have hi2 : decide (i < 13) = true := decide_eq_true hi; have HWI := Aside0.mk (show wrap64 ((i : Int) + 1) = ((i + 1 : Nat) : Int) by unfold wrap64; omega); have hI : ∀ W, _ := fun W => reply_lines.index a0 (i : Int) (by omega) (by omega) W
    obtain ⟨l, hl⟩ : ∃ l, l = rdOf ByteArray.empty (reply_lines.l a0) (i : Int) := ⟨_, rfl⟩; rw [← hl] at hI; have hf := HF.out; unfold reply_Read.find at hf; rw [← hl] at hf; clear hi hl
    by_cases hE : l.toList = ([] : List UInt8)
    ·have x0 : (l.toList == ([] : List UInt8)) = true := beq_iff_eq.mpr hE; have x1 : (l.toList != ([] : List UInt8)) = false := bne_eq_false_iff_eq.mpr hE; rw [if_neg (fun h => h.1 hE)] at hf; have HF2 := Aside0.mk hf; clear hf hE; go_wp2
     go_roundg qo
     case measure => omega
     case rel => exact ⟨i + 1, rfl, congrArg (Value.int .i64) HWI.out, ⟨by have := HQ.out; omega⟩, HF2⟩
    ·have x0 : (l.toList == ([] : List UInt8)) = false := beq_eq_false_iff_ne.2 hE; have x1 : (l.toList != ([] : List UInt8)) = true := bne_iff_ne.2 hE
     by_cases hM : l.toList = first.toList
     ·have x2 : (l.toList == first.toList) = true := beq_iff_eq.mpr hM; have x3 : (l.toList != first.toList) = false := bne_eq_false_iff_eq.mpr hM; rw [if_pos ⟨hE, hM⟩] at hf; have hh := HH.out; rw [hf] at hh; simp only [Option.some.injEq, Prod.mk.injEq] at hh; obtain ⟨rfl, rfl, rfl, rfl, rfl⟩ := hh; clear hf hE hM; obtain ⟨hcz4, hfz4⟩ := d3 B4; go_wp2; refine bodyPost_ret (results_ctt rfl _ _ g4 30 #[.int .i64 (i : Int), .slice none 0 0, .int .u64 0] (0, 0) _ rfl (bV B4.out) Tryd.underlying30 rfl (by kernel_rfl)) rfl ?_
      exact ⟨_, rfl, Kd.R_nil _ _ _ _ _, bH HB.out⟩
     ·have x2 : (l.toList == first.toList) = false := beq_eq_false_iff_ne.2 hM; have x3 : (l.toList != first.toList) = true := bne_iff_ne.2 hM; rw [if_neg (fun h => hM h.2)] at hf; have HF2 := Aside0.mk hf; clear hf hE hM; go_wp2
      go_roundg qo
      case measure => omega
      case rel => exact ⟨i + 1, rfl, congrArg (Value.int .i64) HWI.out, ⟨by have := HQ.out; omega⟩, HF2⟩
   ·have hi1 : decide ((i : Int) < 13) = false := decide_eq_false (by omega); have hi2 : decide (i < 13) = false := decide_eq_false hi; obtain rfl : gk = 0 := by have := HQ.out; omega
    have hf := HF.out; unfold reply_Read.find at hf; have hh := HH.out; rw [hf] at hh
    dsimp only at hh
    obtain ⟨⟨n1, n2⟩, hn, hh⟩ := Option.bind_eq_some_iff.1 hh; have HNUM := Aside0.mk hn; clear hf hn hi HF HQ HH; cases n2 with
    | true =>
     rw [if_pos rfl] at hh; simp only [Option.some.injEq, Prod.mk.injEq] at hh; obtain ⟨rfl, rfl, rfl, rfl, rfl⟩ := hh
     go_wp2_with (first | (go_at_call 30; ((with_reducible refine (reply_number.calls first 18446744073709551615 n1 true _ HNUM.out (LdU.s (HL.out.on HB.out))).mono ?_); rintro e w7 ⟨rfl, hb⟩; replace B4 := Aside0.mk (blk_below B4.out hb); replace HB := Aside0.mk (below_step HB.out hb); clear hb; obtain ⟨hcz4, hfz4⟩ := d3 B4)))
     refine bodyPost_ret (results_ctt rfl _ _ g4 30 #[.int .i64 7, .slice none 0 0, .int .u64 n1] (0, 0) _ rfl (bV B4.out) Tryd.underlying30 rfl (by kernel_rfl)) rfl ?_
     exact ⟨_, rfl, Kd.R_nil _ _ _ _ _, bH HB.out⟩
    | false =>
     simp only [Bool.false_eq_true, ↓reduceIte] at hh; have HX := Aside0.mk hh; clear hh
     go_wp2_with (first | (go_at_call 30; ((with_reducible refine (reply_number.calls first 18446744073709551615 n1 false _ HNUM.out (LdU.s (HL.out.on HB.out))).mono ?_); rintro e w7 ⟨rfl, hb⟩; replace B4 := Aside0.mk (blk_below B4.out hb); replace HB := Aside0.mk (below_step HB.out hb); clear hb; obtain ⟨hcz4, hfz4⟩ := d3 B4)) | ((with_reducible refine gate_dst (N := 14) rfl ?_); (refine bE 14 #[.int .i64 0, .slice none 0 0, .int .u64 0] 30 rfl rfl ?_; intro g14 hg14 w8 hbox hb; have B14 := Aside0.mk hbox; have G14 := Aside0.mk (show w.heap.size ≤ g14 by rw [hg14]; exact HB.out.size); have N4_14 := Aside0.mk (show g4 ≠ g14 by rw [hg14]; exact Nat.ne_of_lt (blk_lt B4.out)); have N14_4 := rY N4_14; replace B4 := Aside0.mk (blk_below B4.out hb); replace HB := Aside0.mk (below_step HB.out hb); clear hg14 hbox hb; obtain ⟨hcz14, hfz14⟩ := d3 B14)))
     go_loopg [8] 102 (fun q v8 wi => ∃ (rest : ByteArray) (hs : List S60) (V : Value), v8 = .string rest ∧ Aside0 (reply_Read.hits k a0 a1 q rest hs = some (r1, r2, r3, r4, r5)) ∧ Aside0 (wi.heap[g14]? = some (.cells #[.int .i64 1, V, .int .u64 0] 30 (0, 0))) ∧ Aside0 (wi.heap[g4]? = some (.cells #[.int .i64 0, .slice none 0 0, .int .u64 0] 30 (0, 0))) ∧ Aside0 (Kd.R k60 60 wi w.heap.size (fun _ => True) V hs) ∧ Aside0 (Below w.heap.size w wi))
     case atStart => exact ⟨a1, [], .slice none 0 0, rfl, HX, ⟨bV B14.out⟩, ⟨bK B4.out⟩, ⟨Kd.R_nil _ _ _ _ _⟩, ⟨bH HB.out⟩⟩
     case round =>
      clear HX B14 B4 HB hcz4 hfz4 hcz14 hfz14 HNUM; obtain ⟨rest, hs, V, rfl, HX, B14, B4, HO, HB⟩ := hrel; obtain ⟨A, c, rfl⟩ := Kd.R_slice HO.out; obtain ⟨hcz14, hfz14⟩ := d3 B14; obtain ⟨hcz4, hfz4⟩ := d3 B4; have hx := HX.out; clear HX; cases gk with
      | zero => unfold reply_Read.hits at hx; cases hx
      | succ qo =>
       unfold reply_Read.hits at hx
       by_cases hlen : hs.length ≤ 100
       ·have y0 : decide ((hs.length : Int) ≤ 100) = true := decide_eq_true (by omega); have y1 : decide (hs.length ≤ 100) = true := decide_eq_true hlen; rw [if_pos hlen] at hx; obtain ⟨⟨c1, c2⟩, hcp, hx⟩ := Option.bind_eq_some_iff.1 hx; have HCP := Aside0.mk hcp; have HLEN := Aside0.mk hlen; clear hcp hlen; cases c2 with
        | true =>
         rw [if_pos rfl] at hx; simp only [Option.some.injEq, Prod.mk.injEq] at hx; obtain ⟨rfl, rfl, rfl, rfl, rfl⟩ := hx
         go_wp2_with (first | (go_at_call 31; ((with_reducible refine (strings_CutPrefix.calls rest (⟨#[69, 78, 68, 13, 10]⟩ : ByteArray) c1 true _ HCP.out).mono ?_); rintro e w9 ⟨rfl, hb⟩; replace B14 := Aside0.mk (blk_below B14.out hb); replace B4 := Aside0.mk (blk_below B4.out hb); replace HO := Aside0.mk (Kd.R_below HO.out hb); replace HB := Aside0.mk (below_step HB.out hb); clear hb; obtain ⟨hcy4, hfy4⟩ := d3 B4; obtain ⟨hcy14, hfy14⟩ := d3 B14)))
         refine bodyPost_ret (results_ctt rfl _ _ g4 30 #[.int .i64 1, .slice A hs.length c, .int .u64 0] (0, 0) _ rfl (bV B4.out) Tryd.underlying30 rfl (by kernel_rfl)) rfl ?_
         refine ⟨_, rfl, ?_, bH HB.out⟩
         exact Kd.R_mono (Kd.R_keep (g := g4) (Kd.R_types HO.out B4.out (by decide)) (by with_reducible repeat (first | exact KeepBut.refl _ _ _ | refine KeepBut.set_ ?_ _ _)) (fun _ hk => hk.2)) (fun _ hk => hk.1)
        | false =>
         simp only [Bool.false_eq_true, ↓reduceIte] at hx; obtain ⟨⟨h1, h2, h3, h4, h5, h6⟩, hh, hx⟩ := Option.bind_eq_some_iff.1 hx; have HHIT := Aside0.mk hh; clear hh
         dsimp only at hx
         cases h6 with
         | false =>
          simp only [Bool.false_eq_true, ↓reduceIte] at hx; simp only [Option.some.injEq, Prod.mk.injEq] at hx; obtain ⟨rfl, rfl, rfl, rfl, rfl⟩ := hx
          go_wp2_with (first | (go_at_call 31; ((with_reducible refine (strings_CutPrefix.calls rest (⟨#[69, 78, 68, 13, 10]⟩ : ByteArray) c1 false _ HCP.out).mono ?_); rintro e w9 ⟨rfl, hb⟩; replace B14 := Aside0.mk (blk_below B14.out hb); replace B4 := Aside0.mk (blk_below B4.out hb); replace HO := Aside0.mk (Kd.R_below HO.out hb); replace HB := Aside0.mk (below_step HB.out hb); clear hb; obtain ⟨hcy4, hfy4⟩ := d3 B4; obtain ⟨hcy14, hfy14⟩ := d3 B14)) | ((with_reducible refine gate_dst (N := 17) rfl ?_); (refine bE 17 #[.string ⟨#[]⟩, .int .u32 0, .string ⟨#[]⟩, .int .u64 0] 60 rfl rfl ?_; intro g17 hg17 w10 hbox hb; have B17 := Aside0.mk hbox; have G17 := Aside0.mk (show w.heap.size ≤ g17 by rw [hg17]; exact HB.out.size); have N4_17 := Aside0.mk (show g4 ≠ g17 by rw [hg17]; exact Nat.ne_of_lt (blk_lt B4.out)); have N17_4 := rY N4_17; have N14_17 := Aside0.mk (show g14 ≠ g17 by rw [hg17]; exact Nat.ne_of_lt (blk_lt B14.out)); have N17_14 := rY N14_17; replace HO := Aside0.mk (Kd.R_mono (ok' := fun q => q ≠ g17) (Kd.R_bound HO.out) (fun q hq => by have := hq.2.2.1; omega)); replace B14 := Aside0.mk (blk_below B14.out hb); replace B4 := Aside0.mk (blk_below B4.out hb); replace HO := Aside0.mk (Kd.R_below HO.out hb); replace HB := Aside0.mk (below_step HB.out hb); clear hg17 hbox hb)) | (go_at_call 32; ((with_reducible refine (reply_hit.calls k a0 rest h1 h2 h3 h4 h5 false _ HHIT.out (HL.out.on HB.out)).mono ?_); rintro e w11 ⟨rfl, hb⟩; replace B17 := Aside0.mk (blk_below B17.out hb); replace B14 := Aside0.mk (blk_below B14.out hb); replace B4 := Aside0.mk (blk_below B4.out hb); replace HO := Aside0.mk (Kd.R_below HO.out hb); replace HB := Aside0.mk (below_step HB.out hb); clear hb; obtain ⟨hcz17, hfz17⟩ := d4 B17)) | ((with_reducible refine gate_dst (N := 87) rfl ?_); (obtain ⟨w12, hw12⟩ : ∃ w12, w12 = ((((w11.setCell ⟨g17, 0, none⟩ (.string h1)).setCell ⟨g17, 1, none⟩ (.int .u32 h2)).setCell ⟨g17, 2, none⟩ (.string h3)).setCell ⟨g17, 3, none⟩ (.int .u64 h4)) := ⟨_, rfl⟩; have C17 := Aside0.mk (show w12.heap[g17]? = some (.cells #[.string h1, .int .u32 h2, .string h3, .int .u64 h4] 60 (0, 0)) by rw [hw12]; exact bV B17.out); have C14 := Aside0.mk (show w12.heap[g14]? = some (.cells #[.int .i64 1, .slice A hs.length c, .int .u64 0] 30 (0, 0)) by rw [hw12]; exact bK B14.out); have C4 := Aside0.mk (show w12.heap[g4]? = some (.cells #[.int .i64 0, .slice none 0 0, .int .u64 0] 30 (0, 0)) by rw [hw12]; exact bK B4.out); have HO2 := Aside0.mk (show Kd.R k60 60 w12 w.heap.size (fun _ => True) (.slice A hs.length c) hs by rw [hw12]; exact Kd.R_mono (Kd.R_keep (g := g17) HO.out (by with_reducible repeat (first | exact KeepBut.refl _ _ _ | refine KeepBut.set_ ?_ _ _)) (fun _ hk => hk)) (fun _ _ => trivial)); have HB2 := Aside0.mk (show Below w.heap.size w w12 by rw [hw12]; exact bH HB.out); rw [← hw12]; clear hw12 B17 B14 B4 HO HB hcz17 hfz17 hcz14 hfz14 hcz4 hfz4 hcy4 hfy4 hcy14 hfy14; have B17 := C17; have B14 := C14; have B4 := C4; have HO := HO2; have HB := HB2; clear C17 C14 C4 HO2 HB2; obtain ⟨hcz17, hfz17⟩ := d4 B17; obtain ⟨hcz14, hfz14⟩ := d3 B14; obtain ⟨hcz4, hfz4⟩ := d3 B4)))
          refine bodyPost_ret (results_ctt rfl _ _ g4 30 #[.int .i64 0, .slice none 0 0, .int .u64 0] (0, 0) _ rfl (bV B4.out) Tryd.underlying30 rfl (by kernel_rfl)) rfl ?_
          exact ⟨_, rfl, Kd.R_nil _ _ _ _ _, bH HB.out⟩
         | true =>
          rw [if_pos rfl] at hx; have HX2 := Aside0.mk hx; clear hx
          go_wp2_with (first | (go_at_call 31; ((with_reducible refine (strings_CutPrefix.calls rest (⟨#[69, 78, 68, 13, 10]⟩ : ByteArray) c1 false _ HCP.out).mono ?_); rintro e w9 ⟨rfl, hb⟩; replace B14 := Aside0.mk (blk_below B14.out hb); replace B4 := Aside0.mk (blk_below B4.out hb); replace HO := Aside0.mk (Kd.R_below HO.out hb); replace HB := Aside0.mk (below_step HB.out hb); clear hb; obtain ⟨hcy4, hfy4⟩ := d3 B4; obtain ⟨hcy14, hfy14⟩ := d3 B14)) | ((with_reducible refine gate_dst (N := 17) rfl ?_); (refine bE 17 #[.string ⟨#[]⟩, .int .u32 0, .string ⟨#[]⟩, .int .u64 0] 60 rfl rfl ?_; intro g17 hg17 w10 hbox hb; have B17 := Aside0.mk hbox; have G17 := Aside0.mk (show w.heap.size ≤ g17 by rw [hg17]; exact HB.out.size); have N4_17 := Aside0.mk (show g4 ≠ g17 by rw [hg17]; exact Nat.ne_of_lt (blk_lt B4.out)); have N17_4 := rY N4_17; have N14_17 := Aside0.mk (show g14 ≠ g17 by rw [hg17]; exact Nat.ne_of_lt (blk_lt B14.out)); have N17_14 := rY N14_17; replace HO := Aside0.mk (Kd.R_mono (ok' := fun q => q ≠ g17) (Kd.R_bound HO.out) (fun q hq => by have := hq.2.2.1; omega)); replace B14 := Aside0.mk (blk_below B14.out hb); replace B4 := Aside0.mk (blk_below B4.out hb); replace HO := Aside0.mk (Kd.R_below HO.out hb); replace HB := Aside0.mk (below_step HB.out hb); clear hg17 hbox hb)) | (go_at_call 32; ((with_reducible refine (reply_hit.calls k a0 rest h1 h2 h3 h4 h5 true _ HHIT.out (HL.out.on HB.out)).mono ?_); rintro e w11 ⟨rfl, hb⟩; replace B17 := Aside0.mk (blk_below B17.out hb); replace B14 := Aside0.mk (blk_below B14.out hb); replace B4 := Aside0.mk (blk_below B4.out hb); replace HO := Aside0.mk (Kd.R_below HO.out hb); replace HB := Aside0.mk (below_step HB.out hb); clear hb; obtain ⟨hcz17, hfz17⟩ := d4 B17)) | ((with_reducible refine gate_dst (N := 87) rfl ?_); (obtain ⟨w12, hw12⟩ : ∃ w12, w12 = ((((w11.setCell ⟨g17, 0, none⟩ (.string h1)).setCell ⟨g17, 1, none⟩ (.int .u32 h2)).setCell ⟨g17, 2, none⟩ (.string h3)).setCell ⟨g17, 3, none⟩ (.int .u64 h4)) := ⟨_, rfl⟩; have C17 := Aside0.mk (show w12.heap[g17]? = some (.cells #[.string h1, .int .u32 h2, .string h3, .int .u64 h4] 60 (0, 0)) by rw [hw12]; exact bV B17.out); have C14 := Aside0.mk (show w12.heap[g14]? = some (.cells #[.int .i64 1, .slice A hs.length c, .int .u64 0] 30 (0, 0)) by rw [hw12]; exact bK B14.out); have C4 := Aside0.mk (show w12.heap[g4]? = some (.cells #[.int .i64 0, .slice none 0 0, .int .u64 0] 30 (0, 0)) by rw [hw12]; exact bK B4.out); have HO2 := Aside0.mk (show Kd.R k60 60 w12 w.heap.size (fun _ => True) (.slice A hs.length c) hs by rw [hw12]; exact Kd.R_mono (Kd.R_keep (g := g17) HO.out (by with_reducible repeat (first | exact KeepBut.refl _ _ _ | refine KeepBut.set_ ?_ _ _)) (fun _ hk => hk)) (fun _ _ => trivial)); have HB2 := Aside0.mk (show Below w.heap.size w w12 by rw [hw12]; exact bH HB.out); rw [← hw12]; clear hw12 B17 B14 B4 HO HB hcz17 hfz17 hcz14 hfz14 hcz4 hfz4 hcy4 hfy4 hcy14 hfy14; have B17 := C17; have B14 := C14; have B4 := C4; have HO := HO2; have HB := HB2; clear C17 C14 C4 HO2 HB2; obtain ⟨hcz17, hfz17⟩ := d4 B17; obtain ⟨hcz14, hfz14⟩ := d3 B14; obtain ⟨hcz4, hfz4⟩ := d3 B4)) | ((with_reducible refine gate_builtin (b := .append) (xs := #[.tmp 89, .tmp 91]) rfl ?_); at_builtin; (refine Kd.R_append k60 (w0 := w) w.heap.size rfl (.tmp 89) (.tmp 91) 28 60 (.agg #[.string ⟨#[]⟩, .int .u32 0, .string ⟨#[]⟩, .int .u64 0]) 48 rfl Tryd.underlying28 info_hit rfl (by decide) (by omega) (.slice A hs.length c) hs (⟨h1, h2, h3, h4⟩ : S60) [.string h1, .int .u32 h2, .string h3, .int .u64 h4] (fun _ => True) (fun _ => False) rfl (by first | (go_simp; done) | (go_simp; rfl)) (k60_mkM _ _ _ (⟨h1, h2, h3, h4⟩ : S60)) (fun _ hk => hk.elim) (fun _ _ => trivial) HO.out HB.out HB.out.size (by have := HLEN.out; omega) ?_; intro v13 w13 hq1 hb1 hg1 hat1; obtain ⟨inner, ho⟩ := Kd.R_own HO.out; replace B14 := Aside0.mk (blk_grown B14.out hg1 (own_ne ho B14.out (by decide))); replace B4 := Aside0.mk (blk_grown B4.out hg1 (own_ne ho B4.out (by decide))); obtain ⟨A2, c2, rfl⟩ := Kd.R_slice hq1; rw [List.length_append, List.length_singleton] at hq1; replace HO := Aside0.mk hq1; replace HB := Aside0.mk hb1; clear ho hq1 hb1 hg1 hat1; obtain ⟨hcx14, hfx14⟩ := d3 B14)))
          go_roundg qo
          case measure => omega
          case rel => exact ⟨h5, hs ++ [⟨h1, h2, h3, h4⟩], .slice A2 (hs.length + 1) c2, rfl, HX2, ⟨bV B14.out⟩, ⟨bK B4.out⟩, ⟨Kd.R_set HO.out B14.out (by decide) 1 _⟩, ⟨bH HB.out⟩⟩
       ·have y0 : decide ((hs.length : Int) ≤ 100) = false := decide_eq_false (by omega); have y1 : decide (hs.length ≤ 100) = false := decide_eq_false hlen; rw [if_neg hlen] at hx; simp only [Option.some.injEq, Prod.mk.injEq] at hx; obtain ⟨rfl, rfl, rfl, rfl, rfl⟩ := hx; clear hlen; go_wp2; refine bodyPost_ret (results_ctt rfl _ _ g4 30 #[.int .i64 0, .slice none 0 0, .int .u64 0] (0, 0) _ rfl (bV B4.out) Tryd.underlying30 rfl (by kernel_rfl)) rfl ?_
        exact ⟨_, rfl, Kd.R_nil _ _ _ _ _, bH HB.out⟩

end Go.Proofs.YtdgpagocccabdaaDoor.P
