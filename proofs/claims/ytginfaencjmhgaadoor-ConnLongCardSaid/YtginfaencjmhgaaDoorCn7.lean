/- ConnTotal's walk. Conditions: the readings that each theorem names. -/
import Derived.Test.YtginfaencjmhgaaDoorCn6
import Derived.Test.YtginfaencjmhgaaDoorPx20
import Derived.Test.YtginfaencjmhgaaDoorPx14
namespace Go.Proofs.YtginfaencjmhgaaDoor.P
open Go.RowKit Go.Proofs.YtginfaencjmhgaaDoorW.PrintWords Go.Proofs.YtginfaencjmhgaaDoorW.PrintLast Go.Proofs.YtginfaencjmhgaaDoorW.PrintMore Go.Proofs.YtginfaencjmhgaaDoor.Pl Go.Proofs.YtginfaencjmhgaaDoor.Lim
set_option linter.unusedVariables false
set_option linter.unusedSimpArgs false
theorem nil_Q (W : World) (base : Nat) (ok : Nat → Prop) (hb : base ≤ W.heap.size) (hok : ok W.heap.size) : kB.Q 5 (W.alloc (.cells #[] 5)) base ok (.slice (some ⟨W.heap.size, 0, none⟩) 0 0) [] := by
  refine ⟨fun k hk => ?_, [], ⟨rfl, .inl ⟨rfl, _, rfl, fun a ha => ?_⟩⟩, ⟨rfl, fun j p hp => by cases hp⟩⟩
  · have hk : some W.heap.size = some k := hk
    injection hk with hk
    exact hk ▸ hok
  · injection ha with ha
    subst ha
    exact ⟨hb, #[], blk_new W (.cells #[] 5)⟩
theorem below_nil {W w3 : World} (h : (W.alloc (.cells #[] 5)).grownBy w3 (some W.heap.size)) : Below W.heap.size W w3 :=
  (below_alloc (Below.refl W.heap.size W) (.cells #[] 5)).grown h (by simp) (fun k hk => by injection hk with hk; omega)
theorem above_nil {W : World} {o : Obj} {k : Nat} (h : (W.alloc o).heap.size ≤ k) : W.heap.size ≤ k := by
  have : (W.alloc o).heap.size = W.heap.size + 1 := by simp
  omega
theorem above_nil2 {W : World} {o : Obj} {k : Nat} (h : k ≤ W.heap.size) : k ≤ (W.alloc o).heap.size := by
  have : (W.alloc o).heap.size = W.heap.size + 1 := by simp
  omega
theorem check_calls {w0 w : World} (kd : Int) (A : Option Addr) (c n : Nat) (keys : List ByteArray) (hn : n = keys.length) (fl ex : Int) (v : ByteArray) (cas del : Int) (q : Bool) (hC : Kd.C Kd.string w A n keys) (hc : n ≤ c) (hk : keys.length ≤ 1000) (h0 : chk kd keys fl ex v cas del q = 0) :
    Calls Tryd.prog 15 #[.agg #[.int .i64 kd, .slice A n c, .int .u32 fl, .int .i64 ex, .string v, .int .u64 cas, .int .u64 del, .bool q]] w fun e w' => e = .returned (.int .i64 0) ∧ Below w.heap.size w w' := by
  subst hn
  have hh := rcheck_eq kd keys fl ex v cas del q (by omega)
  rw [h0] at hh
  obtain ⟨k, hk⟩ := ((tallboyref15_Check.Llm kd keys fl ex v cas del q).1 _ hh).rounds
  exact tallboyref15_Check.calls k kd A c keys fl ex v cas del q 0 w hC hc hk
theorem sameZ_calls {w : World} (A : Option Addr) (c : Nat) (hC : Kd.C Kd.string w A 0 []) :
    Calls Tryd.prog 16 #[.agg #[.int .i64 0, .slice A 0 c, .int .u32 0, .int .i64 0, .string ⟨#[]⟩, .int .u64 0, .int .u64 0, .bool false], .agg #[.int .i64 0, .slice none 0 0, .int .u32 0, .int .i64 0, .string ⟨#[]⟩, .int .u64 0, .int .u64 0, .bool false]] w fun e w' => e = .returned (.bool true) ∧ Below w.heap.size w w' := by
  have hh := same_refl 0 [] 0 0 ⟨#[]⟩ 0 0 false (by decide)
  obtain ⟨k, hk⟩ := ((tallboyref17_SameCommands.Llm 0 [] 0 0 ⟨#[]⟩ 0 0 false 0 [] 0 0 ⟨#[]⟩ 0 0 false).1 _ hh).rounds
  exact tallboyref17_SameCommands.calls k 0 A c [] 0 0 ⟨#[]⟩ 0 0 false 0 none 0 [] 0 0 ⟨#[]⟩ 0 0 false true w hC (Nat.zero_le _) (Kd.C_nil _ _) (Nat.zero_le _) hk
set_option maxHeartbeats 8000000 in
set_option maxRecDepth 100000 in
theorem ct_law (w0 : World) (A0 : Option Addr) (c0 : Nat) (l0 : List Int) (hr0 : kB.C w0 A0 l0.length l0) (hL : LdS w0) :
    Calls Tryd.prog 6 #[.slice A0 l0.length c0] w0 fun e w' => e = .returned (.bool true) ∧ Below w0.heap.size w0 w' := by
  have HL := Aside0.mk hL
  clear hL
  by_cases hlen : (l0.length : Int) > 20000
  · have hd : decide ((l0.length : Int) > 20000) = true := decide_eq_true hlen
    have hd2 : decide ((20000 : Int) < (l0.length : Int)) = true := decide_eq_true hlen
    go_enter Tryd.func6, Tryd.ntmps6
    go_wp2_with (first | (go_at_call 8; ((with_reducible refine (works_calls w0 HL.out).mono ?_); rintro e_ w1 ⟨rfl, hb⟩; have HB := Aside0.mk hb; have HC := Aside0.mk (Kd.C_below hr0 hb); clear hb)))
    go_ret
    exact ⟨rfl, HB.out⟩
  have hd : decide ((l0.length : Int) > 20000) = false := decide_eq_false hlen
  have hd2 : decide ((20000 : Int) < (l0.length : Int)) = false := decide_eq_false hlen
  have hl65 : s0.b.length + l0.length ≤ 65536 := by show 0 + _ ≤ _; omega
  go_enter Tryd.func6, Tryd.ntmps6
  go_wp2_with (first | (go_at_call 8; ((with_reducible refine (works_calls w0 HL.out).mono ?_); rintro e_ w1 ⟨rfl, hb⟩; have HB := Aside0.mk hb; have HC := Aside0.mk (Kd.C_below hr0 hb); clear hb)) | (go_at_call 9; ((with_reducible refine (CRd.new w0 w1 HB.out).mono ?_); rintro e_ w2 ⟨g, rfl, hI, hg, hB, hb⟩; have HI := Aside0.mk hI; replace HB := Aside0.mk hB; replace HC := Aside0.mk (Kd.C_below HC.out hb); clear hI hg hB hb)) | ((with_reducible refine gate_builtin (b := .append) (xs := #[.tmp 18, .tmp 19]) rfl ?_); at_builtin; (refine fr_append (w0 := w0) w0.heap.size rfl (.tmp 18) (.tmp 19) 22 5 (.int .u8 0) 1 rfl Tryd.underlying22 info_u8 rfl (by decide) (.slice (some ⟨w2.heap.size, 0, none⟩) 0 0) [] l0 _ _ _ (fun k => w2.heap.size ≤ k) rfl rfl (nil_Q w2 _ _ HB.out.size (Nat.le_refl _)) (Kd.C_below HC.out (below_alloc (Below.refl _ _) _)) (fun k hk => above_nil hk) (below_alloc HB.out _) (above_nil2 HB.out.size) (by simp only [List.length_nil]; omega) ?_; intro v1 w3 hq1 hb1 hg1 hat1; rw [List.nil_append] at hq1; obtain ⟨A1, c1, rfl, hc1⟩ := Kd.Q_slice hq1; have HC1 := Aside0.mk (Kd.Q_reads' hq1).2.2; replace HI := Aside0.mk (CRd.below HI.out (below_nil hg1)); replace HB := Aside0.mk hb1; clear hq1 hb1 hg1 hat1 hc1 HC)) | (go_at_call 10; ((with_reducible refine (CRd.feed w0 _ _ g s0 A1 c1 l0.length l0 rfl HI.out HB.out HC1.out hl65).mono ?_); rintro e_ w4 ⟨rfl, own1, hI, hO, hk, hB⟩; replace HI := Aside0.mk (show CRd w0.heap.size w4 own1 g ⟨l0, 0, false, none⟩ from hI); replace HB := Aside0.mk hB; clear HC1 hI hO hk hB)) | (go_at_call 14; ((with_reducible refine (CRd.left w0 _ _ g ⟨l0, 0, false, none⟩ HI.out HB.out).mono ?_); rintro e_ w5 ⟨rfl, hI, hb, hB⟩; have HI5 := Aside0.mk hI; have HB5 := Aside0.mk hB; clear HI HB hI hb hB)))
  clear hd hd2 hl65
  go_loopg [4, 6] l0.length (fun q v4 v6 wi => ∃ (i : Nat) (si : CS) (own' : Nat → Prop), v4 = .int .i64 (si.b.length : Int) ∧ v6 = .int .i64 (i : Int) ∧ Aside0 (si.Gd ∧ si.b.length ≤ 65536) ∧ Aside0 (q = si.b.length) ∧ Aside0 (i + si.b.length ≤ l0.length) ∧ Aside0 (CRd w0.heap.size wi own' g si) ∧ Aside0 (Below w0.heap.size w0 wi))
  case atStart => exact ⟨0, ⟨l0, 0, false, none⟩, own1, rfl, rfl, ⟨good0 l0, by show l0.length ≤ _; omega⟩, ⟨rfl⟩, ⟨by show 0 + l0.length ≤ _; omega⟩, HI5, HB5⟩
  case round =>
    clear HI5 HB5
    obtain ⟨i, si, own', rfl, rfl, HG, HQ0, HQ, HI, HB⟩ := hrel
    have hi1 : decide ((i : Int) ≤ (l0.length : Int)) = true := decide_eq_true (by have := HQ.out; omega)
    have hiN : decide (i ≤ l0.length) = true := decide_eq_true (by have := HQ.out; omega)
    have hiL : i ≤ l0.length := by have := HQ.out; omega
    have hwi : wrap64 ((i : Int) + 1) = (i : Int) + 1 := by have := HQ.out; unfold wrap64; omega
    obtain rfl := HQ0.out
    obtain ⟨⟨st, at_, bb⟩, hnx⟩ : ∃ r, r = nextV si := ⟨_, rfl⟩
    have hng := next_good si HG.out.1
    have hnl := next_len si
    have hny := step_yes si HG.out.1.ok
    rw [← hnx] at hng hnl hny
    dsimp only at hng hnl hny
    have HG2 := Aside0.mk (show st.Gd ∧ st.b.length ≤ 65536 from ⟨hng.1, Nat.le_trans hnl HG.out.2⟩)
    cases bb with
    | false =>
      obtain ⟨a1, a2, a3, a4, a5, a6, a7, a8, a9⟩ := at_
      have hleN : decide (st.b.length ≤ si.b.length) = true := decide_eq_true hnl
      have hle : decide ((st.b.length : Int) ≤ (si.b.length : Int)) = true := decide_eq_true (by omega)
      clear hng hnl hny
      go_wp2_with (first | (go_at_call 13; have hgd_ := hnx; (have hv_ := CRd.next w0 wr own' g si HI.out HB.out HG.out.1 HG.out.2 HL.out; rw [← hnx] at hv_; dsimp only [askC] at hv_; (with_reducible refine hv_.mono ?_); rintro e_ w5 ⟨kv', own2, rfl, hI, hO2, hR2, hk, hB⟩; obtain ⟨A2, c2, rfl⟩ := Kd.R_slice hR2; have HR := Aside0.mk hR2; replace HI := Aside0.mk hI; replace HB := Aside0.mk hB; clear hv_ hnx hgd_ hI hO2 hR2 hk hB)) | ((with_reducible refine gate_dst (N := 7) rfl ?_); (refine bE 7 #[.int .i64 0, .int .i64 0, .slice none 0 0, .int .u32 0, .int .i64 0, .string ⟨#[]⟩, .int .u64 0, .int .u64 0, .bool false] 39 rfl rfl ?_; intro gx hgx w6 hbox hb; have BX := Aside0.mk hbox; replace HI := Aside0.mk (HI.out.below hb); have HGX := Aside0.mk (show w0.heap.size ≤ gx by rw [hgx]; exact HB.out.size); replace HB := Aside0.mk (below_step HB.out hb); replace HR := Aside0.mk (Kd.R_below HR.out hb); obtain ⟨hcx, hfx⟩ := d9 BX; clear hbox hb hgx)) | (go_at_call 14; have hgd_ := hcx; (obtain ⟨w7, hw7⟩ : ∃ w_, w_ = (((((((((w6.setCell ⟨gx, 0, none⟩ (.int .i64 a1)).setCell ⟨gx, 1, none⟩ (.int .i64 a2)).setCell ⟨gx, 2, none⟩ (.slice A2 a3.length c2)).setCell ⟨gx, 3, none⟩ (.int .u32 a4)).setCell ⟨gx, 4, none⟩ (.int .i64 a5)).setCell ⟨gx, 5, none⟩ (.string a6)).setCell ⟨gx, 6, none⟩ (.int .u64 a7)).setCell ⟨gx, 7, none⟩ (.int .u64 a8)).setCell ⟨gx, 8, none⟩ (.bool a9)) := ⟨_, rfl⟩; have kb_ : KeepBut w6 w7 gx none := hw7 ▸ (by with_reducible repeat (first | exact KeepBut.refl _ _ _ | refine KeepBut.set_ ?_ _ _)); have hb_ : Below w0.heap.size w0 w7 := hw7 ▸ bH HB.out; have bx_ : w7.heap[gx]? = some (.cells #[.int .i64 a1, .int .i64 a2, .slice A2 a3.length c2, .int .u32 a4, .int .i64 a5, .string a6, .int .u64 a7, .int .u64 a8, .bool a9] 39 (0, 0)) := (by rw [hw7]; exact bV BX.out); replace HI := Aside0.mk (HI.out.far BX.out (by decide) kb_); replace HR := Aside0.mk (Kd.R_mono (Kd.R_keep (Kd.R_types HR.out BX.out (by decide)) kb_ (fun _ h => h.2)) (fun _ h => h.1)); replace HB := Aside0.mk hb_; rw [← hw7]; (with_reducible refine (CRd.left w0 w7 own2 g st HI.out HB.out).mono ?_); rintro e_ w8 ⟨rfl, hI, hb, hB⟩; have BX8 := Aside0.mk (blk_below bx_ hb); replace HI := Aside0.mk hI; replace HB := Aside0.mk hB; replace HR := Aside0.mk (Kd.R_below HR.out hb); have HKS := Aside0.mk (Kd.R_reads' HR.out).2.2; have HKC := Aside0.mk (Kd.R_reads' HR.out).2.1; obtain ⟨hdx, hhx⟩ := d9 BX8; clear hw7 kb_ hb_ bx_ hgd_ hcx hfx hI hb hB BX HR)))
      go_ret
      exact ⟨rfl, HB.out⟩
    | true =>
      have hlt := (hny rfl).2.1
      have hok := hng.2 rfl
      have hge : decide ((st.b.length : Int) ≥ (si.b.length : Int)) = false := decide_eq_false (by omega)
      have hgeN : decide (si.b.length ≤ st.b.length) = false := decide_eq_false (by omega)
      have hge2 : decide ((si.b.length : Int) ≤ (st.b.length : Int)) = false := decide_eq_false (by omega)
      clear hng hnl hny
      cases hok with
      | ready a2 a3 a4 a5 a6 a7 a8 a9 hck hk3 =>
        go_wp2_with (first | (go_at_call 13; have hgd_ := hnx; (have hv_ := CRd.next w0 wr own' g si HI.out HB.out HG.out.1 HG.out.2 HL.out; rw [← hnx] at hv_; dsimp only [askC] at hv_; (with_reducible refine hv_.mono ?_); rintro e_ w5 ⟨kv', own2, rfl, hI, hO2, hR2, hk, hB⟩; obtain ⟨A2, c2, rfl⟩ := Kd.R_slice hR2; have HR := Aside0.mk hR2; replace HI := Aside0.mk hI; replace HB := Aside0.mk hB; clear hv_ hnx hgd_ hI hO2 hR2 hk hB)) | ((with_reducible refine gate_dst (N := 7) rfl ?_); (refine bE 7 #[.int .i64 0, .int .i64 0, .slice none 0 0, .int .u32 0, .int .i64 0, .string ⟨#[]⟩, .int .u64 0, .int .u64 0, .bool false] 39 rfl rfl ?_; intro gx hgx w6 hbox hb; have BX := Aside0.mk hbox; replace HI := Aside0.mk (HI.out.below hb); have HGX := Aside0.mk (show w0.heap.size ≤ gx by rw [hgx]; exact HB.out.size); replace HB := Aside0.mk (below_step HB.out hb); replace HR := Aside0.mk (Kd.R_below HR.out hb); obtain ⟨hcx, hfx⟩ := d9 BX; clear hbox hb hgx)) | (go_at_call 14; have hgd_ := hcx; (obtain ⟨w7, hw7⟩ : ∃ w_, w_ = (((((((((w6.setCell ⟨gx, 0, none⟩ (.int .i64 1)).setCell ⟨gx, 1, none⟩ (.int .i64 a2)).setCell ⟨gx, 2, none⟩ (.slice A2 a3.length c2)).setCell ⟨gx, 3, none⟩ (.int .u32 a4)).setCell ⟨gx, 4, none⟩ (.int .i64 a5)).setCell ⟨gx, 5, none⟩ (.string a6)).setCell ⟨gx, 6, none⟩ (.int .u64 a7)).setCell ⟨gx, 7, none⟩ (.int .u64 a8)).setCell ⟨gx, 8, none⟩ (.bool a9)) := ⟨_, rfl⟩; have kb_ : KeepBut w6 w7 gx none := hw7 ▸ (by with_reducible repeat (first | exact KeepBut.refl _ _ _ | refine KeepBut.set_ ?_ _ _)); have hb_ : Below w0.heap.size w0 w7 := hw7 ▸ bH HB.out; have bx_ : w7.heap[gx]? = some (.cells #[.int .i64 1, .int .i64 a2, .slice A2 a3.length c2, .int .u32 a4, .int .i64 a5, .string a6, .int .u64 a7, .int .u64 a8, .bool a9] 39 (0, 0)) := (by rw [hw7]; exact bV BX.out); replace HI := Aside0.mk (HI.out.far BX.out (by decide) kb_); replace HR := Aside0.mk (Kd.R_mono (Kd.R_keep (Kd.R_types HR.out BX.out (by decide)) kb_ (fun _ h => h.2)) (fun _ h => h.1)); replace HB := Aside0.mk hb_; rw [← hw7]; (with_reducible refine (CRd.left w0 w7 own2 g st HI.out HB.out).mono ?_); rintro e_ w8 ⟨rfl, hI, hb, hB⟩; have BX8 := Aside0.mk (blk_below bx_ hb); replace HI := Aside0.mk hI; replace HB := Aside0.mk hB; replace HR := Aside0.mk (Kd.R_below HR.out hb); have HKS := Aside0.mk (Kd.R_reads' HR.out).2.2; have HKC := Aside0.mk (Kd.R_reads' HR.out).2.1; obtain ⟨hdx, hhx⟩ := d9 BX8; clear hw7 kb_ hb_ bx_ hgd_ hcx hfx hI hb hB BX HR)) | (go_at_call 15; ((with_reducible refine (check_calls (w0 := w0) a2 A2 c2 a3.length a3 rfl a4 a5 a6 a7 a8 a9 HKS.out HKC.out hk3 hck).mono ?_); rintro e_ w9 ⟨rfl, hb⟩; replace HI := Aside0.mk (HI.out.below hb); replace HB := Aside0.mk (below_step HB.out hb); have BX9 := Aside0.mk (blk_below BX8.out hb); obtain ⟨hex, hix⟩ := d9 BX9; clear hb hdx hhx BX8 HKS HKC)))
        go_roundg st.b.length
        case measure => omega
        case rel => exact ⟨i + 1, st, own2, rfl, congrArg (Value.int .i64) (show ((i : Int) + 1) = ((i + 1 : Nat) : Int) by omega), HG2, ⟨rfl⟩, ⟨by have := HQ.out; omega⟩, HI, HB⟩
      | big a2 a3 a9 =>
        go_wp2_with (first | (go_at_call 13; have hgd_ := hnx; (have hv_ := CRd.next w0 wr own' g si HI.out HB.out HG.out.1 HG.out.2 HL.out; rw [← hnx] at hv_; dsimp only [askC] at hv_; (with_reducible refine hv_.mono ?_); rintro e_ w5 ⟨kv', own2, rfl, hI, hO2, hR2, hk, hB⟩; obtain ⟨A2, c2, rfl⟩ := Kd.R_slice hR2; have HR := Aside0.mk hR2; replace HI := Aside0.mk hI; replace HB := Aside0.mk hB; clear hv_ hnx hgd_ hI hO2 hR2 hk hB)) | ((with_reducible refine gate_dst (N := 7) rfl ?_); (refine bE 7 #[.int .i64 0, .int .i64 0, .slice none 0 0, .int .u32 0, .int .i64 0, .string ⟨#[]⟩, .int .u64 0, .int .u64 0, .bool false] 39 rfl rfl ?_; intro gx hgx w6 hbox hb; have BX := Aside0.mk hbox; replace HI := Aside0.mk (HI.out.below hb); have HGX := Aside0.mk (show w0.heap.size ≤ gx by rw [hgx]; exact HB.out.size); replace HB := Aside0.mk (below_step HB.out hb); replace HR := Aside0.mk (Kd.R_below HR.out hb); obtain ⟨hcx, hfx⟩ := d9 BX; clear hbox hb hgx)) | (go_at_call 14; have hgd_ := hcx; (obtain ⟨w7, hw7⟩ : ∃ w_, w_ = (((((((((w6.setCell ⟨gx, 0, none⟩ (.int .i64 8)).setCell ⟨gx, 1, none⟩ (.int .i64 a2)).setCell ⟨gx, 2, none⟩ (.slice A2 1 c2)).setCell ⟨gx, 3, none⟩ (.int .u32 0)).setCell ⟨gx, 4, none⟩ (.int .i64 0)).setCell ⟨gx, 5, none⟩ (.string ⟨#[]⟩)).setCell ⟨gx, 6, none⟩ (.int .u64 0)).setCell ⟨gx, 7, none⟩ (.int .u64 0)).setCell ⟨gx, 8, none⟩ (.bool a9)) := ⟨_, rfl⟩; have kb_ : KeepBut w6 w7 gx none := hw7 ▸ (by with_reducible repeat (first | exact KeepBut.refl _ _ _ | refine KeepBut.set_ ?_ _ _)); have hb_ : Below w0.heap.size w0 w7 := hw7 ▸ bH HB.out; have bx_ : w7.heap[gx]? = some (.cells #[.int .i64 8, .int .i64 a2, .slice A2 1 c2, .int .u32 0, .int .i64 0, .string ⟨#[]⟩, .int .u64 0, .int .u64 0, .bool a9] 39 (0, 0)) := (by rw [hw7]; exact bV BX.out); replace HI := Aside0.mk (HI.out.far BX.out (by decide) kb_); replace HR := Aside0.mk (Kd.R_mono (Kd.R_keep (Kd.R_types HR.out BX.out (by decide)) kb_ (fun _ h => h.2)) (fun _ h => h.1)); replace HB := Aside0.mk hb_; rw [← hw7]; (with_reducible refine (CRd.left w0 w7 own2 g st HI.out HB.out).mono ?_); rintro e_ w8 ⟨rfl, hI, hb, hB⟩; have BX8 := Aside0.mk (blk_below bx_ hb); replace HI := Aside0.mk hI; replace HB := Aside0.mk hB; replace HR := Aside0.mk (Kd.R_below HR.out hb); have HKS := Aside0.mk (Kd.R_reads' HR.out).2.2; have HKC := Aside0.mk (Kd.R_reads' HR.out).2.1; obtain ⟨hdx, hhx⟩ := d9 BX8; clear hw7 kb_ hb_ bx_ hgd_ hcx hfx hI hb hB BX HR)))
        go_roundg st.b.length
        case measure => omega
        case rel => exact ⟨i + 1, st, own2, rfl, congrArg (Value.int .i64) (show ((i : Int) + 1) = ((i + 1 : Nat) : Int) by omega), HG2, ⟨rfl⟩, ⟨by have := HQ.out; omega⟩, HI, HB⟩
      | no v hv =>
        have hv1 : (v == 1) = false := beq_eq_false_iff_ne.mpr (by omega)
        have hv2 : (v == 2) = false := beq_eq_false_iff_ne.mpr (by omega)
        have hv3 : decide (v < 1) = false := decide_eq_false (by omega)
        have hv4 : decide (v > 9) = false := decide_eq_false (by omega)
        have hv5 : decide (9 < v) = false := decide_eq_false (by omega)
        have hv6 : (v != 1) = true := bne_iff_ne.mpr (by omega)
        have hv7 : (v != 8) = true := bne_iff_ne.mpr (by omega)
        unfold zA at hnx
        go_wp2_with (first | (go_at_call 13; have hgd_ := hnx; (have hv_ := CRd.next w0 wr own' g si HI.out HB.out HG.out.1 HG.out.2 HL.out; rw [← hnx] at hv_; dsimp only [askC] at hv_; (with_reducible refine hv_.mono ?_); rintro e_ w5 ⟨kv', own2, rfl, hI, hO2, hR2, hk, hB⟩; obtain ⟨A2, c2, rfl⟩ := Kd.R_slice hR2; have HR := Aside0.mk hR2; replace HI := Aside0.mk hI; replace HB := Aside0.mk hB; clear hv_ hnx hgd_ hI hO2 hR2 hk hB)) | ((with_reducible refine gate_dst (N := 7) rfl ?_); (refine bE 7 #[.int .i64 0, .int .i64 0, .slice none 0 0, .int .u32 0, .int .i64 0, .string ⟨#[]⟩, .int .u64 0, .int .u64 0, .bool false] 39 rfl rfl ?_; intro gx hgx w6 hbox hb; have BX := Aside0.mk hbox; replace HI := Aside0.mk (HI.out.below hb); have HGX := Aside0.mk (show w0.heap.size ≤ gx by rw [hgx]; exact HB.out.size); replace HB := Aside0.mk (below_step HB.out hb); replace HR := Aside0.mk (Kd.R_below HR.out hb); obtain ⟨hcx, hfx⟩ := d9 BX; clear hbox hb hgx)) | (go_at_call 14; have hgd_ := hcx; (obtain ⟨w7, hw7⟩ : ∃ w_, w_ = (((((((((w6.setCell ⟨gx, 0, none⟩ (.int .i64 v)).setCell ⟨gx, 1, none⟩ (.int .i64 0)).setCell ⟨gx, 2, none⟩ (.slice A2 0 c2)).setCell ⟨gx, 3, none⟩ (.int .u32 0)).setCell ⟨gx, 4, none⟩ (.int .i64 0)).setCell ⟨gx, 5, none⟩ (.string ⟨#[]⟩)).setCell ⟨gx, 6, none⟩ (.int .u64 0)).setCell ⟨gx, 7, none⟩ (.int .u64 0)).setCell ⟨gx, 8, none⟩ (.bool false)) := ⟨_, rfl⟩; have kb_ : KeepBut w6 w7 gx none := hw7 ▸ (by with_reducible repeat (first | exact KeepBut.refl _ _ _ | refine KeepBut.set_ ?_ _ _)); have hb_ : Below w0.heap.size w0 w7 := hw7 ▸ bH HB.out; have bx_ : w7.heap[gx]? = some (.cells #[.int .i64 v, .int .i64 0, .slice A2 0 c2, .int .u32 0, .int .i64 0, .string ⟨#[]⟩, .int .u64 0, .int .u64 0, .bool false] 39 (0, 0)) := (by rw [hw7]; exact bV BX.out); replace HI := Aside0.mk (HI.out.far BX.out (by decide) kb_); replace HR := Aside0.mk (Kd.R_mono (Kd.R_keep (Kd.R_types HR.out BX.out (by decide)) kb_ (fun _ h => h.2)) (fun _ h => h.1)); replace HB := Aside0.mk hb_; rw [← hw7]; (with_reducible refine (CRd.left w0 w7 own2 g st HI.out HB.out).mono ?_); rintro e_ w8 ⟨rfl, hI, hb, hB⟩; have BX8 := Aside0.mk (blk_below bx_ hb); replace HI := Aside0.mk hI; replace HB := Aside0.mk hB; replace HR := Aside0.mk (Kd.R_below HR.out hb); have HKS := Aside0.mk (Kd.R_reads' HR.out).2.2; have HKC := Aside0.mk (Kd.R_reads' HR.out).2.1; obtain ⟨hdx, hhx⟩ := d9 BX8; clear hw7 kb_ hb_ bx_ hgd_ hcx hfx hI hb hB BX HR)) | (go_at_call 16; ((with_reducible refine (sameZ_calls A2 c2 HKS.out).mono ?_); rintro e_ w9 ⟨rfl, hb⟩; replace HI := Aside0.mk (HI.out.below hb); replace HB := Aside0.mk (below_step HB.out hb); clear hb hdx hhx BX8 HKS HKC)))
        go_roundg st.b.length
        case measure => omega
        case rel => exact ⟨i + 1, st, own2, rfl, congrArg (Value.int .i64) (show ((i : Int) + 1) = ((i + 1 : Nat) : Int) by omega), HG2, ⟨rfl⟩, ⟨by have := HQ.out; omega⟩, HI, HB⟩
end Go.Proofs.YtginfaencjmhgaaDoor.P
