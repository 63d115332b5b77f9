/- All that is asked for: tallboylaw19.all over a connection. Conditions: the readings that each theorem names. -/
import Derived.Test.YtginfaencjmhgaaDoorCn4
import Derived.Test.YtginfaencjmhgaaDoorPx15
namespace Go.Proofs.YtginfaencjmhgaaDoor.P
open Go.RowKit Go.Proofs.YtginfaencjmhgaaDoorW.PrintWords Go.Proofs.YtginfaencjmhgaaDoorW.PrintLast Go.Proofs.YtginfaencjmhgaaDoorW.PrintMore Go.Proofs.YtginfaencjmhgaaDoor.Pl
set_option linter.unusedVariables false
set_option linter.unusedSimpArgs false
def cvA (a : AT) : S50 := ⟨a.1, ⟨a.2.1, a.2.2.1, a.2.2.2.1, a.2.2.2.2.1, a.2.2.2.2.2.1, a.2.2.2.2.2.2.1, a.2.2.2.2.2.2.2.1, a.2.2.2.2.2.2.2.2⟩⟩
set_option maxHeartbeats 4000000 in
set_option maxRecDepth 100000 in
theorem from_calls (w : World) (a1 a2 : Int) (A : Option Addr) (n c : Nat) (a4 a5 : Int) (a6 : ByteArray) (a7 a8 : Int) (a9 : Bool) :
    Calls Tryd.prog 17 #[.agg #[.int .i64 a1, .int .i64 a2, .slice A n c, .int .u32 a4, .int .i64 a5, .string a6, .int .u64 a7, .int .u64 a8, .bool a9]] w fun e w' => e = .returned (.agg #[.int .i64 a1, .int .i64 a2, .slice A n c, .int .u32 a4, .int .i64 a5, .string a6, .int .u64 a7, .int .u64 a8, .bool a9]) ∧ Below w.heap.size w w' := by
  have HB := Aside0.mk (Below.refl w.heap.size w)
  go_enter Tryd.func17, Tryd.ntmps17
  go_wp2_with (first | ((with_reducible refine gate_dst (N := 2) rfl ?_); refine bE 2 #[.int .i64 0, .int .i64 0, .slice none 0 0, .int .u32 0, .int .i64 0, .string ⟨#[]⟩, .int .u64 0, .int .u64 0, .bool false] 50 rfl rfl ?_; intro gr hgr w1 hbox hb; have BR := Aside0.mk hbox; have HX := Aside0.mk (blk_below (blk_new w (.cells #[.int .i64 a1, .int .i64 a2, .slice A n c, .int .u32 a4, .int .i64 a5, .string a6, .int .u64 a7, .int .u64 a8, .bool a9] 39)) hb); have HGR := Aside0.mk (show w.heap.size ≤ gr by rw [hgr]; simp); replace HB := Aside0.mk (below_step (below_alloc HB.out _) hb); obtain ⟨hcx, hfx⟩ := d9 HX; obtain ⟨hcr, hfr⟩ := d9 BR; clear hgr hbox hb))
  refine bodyPost_ret (results_cell_row rfl _ _ gr 50 #[.int .i64 a1, .int .i64 a2, .slice A n c, .int .u32 a4, .int .i64 a5, .string a6, .int .u64 a7, .int .u64 a8, .bool a9] (0, 0) _ rfl (bV BR.out) Tryd.underlying50 rfl (by kernel_rfl)) rfl ?_
  exact ⟨rfl, bH HB.out⟩
theorem KeptC.grown {w W W' : World} {own : Nat → Prop} {row : Option Nat} (h : KeptC w W own) (hg : W.grownBy W' row) (hr : ∀ k, row = some k → w.heap.size ≤ k) : KeptC w W' own :=
  ⟨Nat.le_trans h.1 hg.size, fun k hk hn => (hg.block k (by have := h.1; omega) (fun e => by have := hr k e.symm; omega)).trans (h.2.1 k hk hn), fun k cs t hc h1 h2 h3 => (hg.block k (by have := blk_lt hc; have := h.1; omega) (fun e => by have := hr k e.symm; have := blk_lt hc; omega)).trans (h.2.2 k cs t hc h1 h2 h3)⟩
theorem CRd.grown {base : Nat} {W W' : World} {own : Nat → Prop} {g : Nat} {s : CS} {v : Value} (h : CRd base W own g s) (hg : W.grownBy W' v.ownBlock) (hty : ∀ k, v.ownBlock = some k → ∃ cells, W.heap[k]? = some (.cells cells 50 (0, 0))) : CRd base W' own g s := by
  have away : ∀ (k : Nat) (cs : Array Value) (t : TypeId), W.heap[k]? = some (.cells cs t (0, 0)) → t ≠ 50 → W'.heap[k]? = some (.cells cs t (0, 0)) := by
    intro k cs t hc ht
    refine blk_grown hc hg fun e => ?_
    obtain ⟨cells, hk⟩ := hty k e.symm
    rw [hk] at hc
    injection hc with hc
    injection hc with _ hc
    exact ht hc.symm
  obtain ⟨A, c, wp, h1, h2, h3, h4, h5, h6⟩ := h
  refine ⟨A, c, wp, away _ _ _ h1 (by decide), h2, h3, Kd.Q_over' h4 hty (by simp [Kd.int, Kd.scalar]) hg, fun k hk => Nat.lt_of_lt_of_le (h5 k hk) hg.size, ?_⟩
  cases hw : s.wt with
  | none => rw [hw] at h6; exact h6
  | some p =>
    rw [hw] at h6
    obtain ⟨q, kv, w1, w2, w3, w4, w5⟩ := h6
    exact ⟨q, kv, w1, w2, w3, away _ _ _ w4 (by decide), Kd.R_over' w5 hty (by simp [Kd.string, Kd.scalar]) hg⟩
theorem info_ask : (Tryd.prog.info? 50).map (fun i => (i.zero, i.size, i.bytes)) = some (some (.agg #[.int .i64 0, .int .i64 0, .slice none 0 0, .int .u32 0, .int .i64 0, .string ⟨#[]⟩, .int .u64 0, .int .u64 0, .bool false]), 9, 96) := by kernel_rfl
set_option maxHeartbeats 8000000 in
set_option maxRecDepth 100000 in
theorem CRd.all (w0 w : World) (own : Nat → Prop) (g : Nat) (s : CS) (hI : CRd w0.heap.size w own g s) (hB : Below w0.heap.size w0 w) (hG : s.Gd) (hs : s.b.length ≤ 65536) (hL : LdS w0) :
    Calls Tryd.prog 11 #[.pointer (some ⟨g, 0, none⟩)] w fun e w' => ∃ v own', e = .returned v ∧ CRd w0.heap.size w' own' g (allV 30000 s).2 ∧ (∀ k, own' k → own k ∨ w.heap.size ≤ k) ∧ Kd.R k50 50 w' w0.heap.size (fun _ => True) v ((allV 30000 s).1.map cvA) ∧ KeptC w w' own ∧ Below w0.heap.size w0 w' := by
  have HI := Aside0.mk hI
  have HB := Aside0.mk hB
  have HL := Aside0.mk hL
  have HG := Aside0.mk (And.intro hG hs)
  have HK := Aside0.mk (KeptC.refl w own)
  clear hI hB hL hG hs
  generalize hX : allV 30000 s = X
  go_enter Tryd.func11, Tryd.ntmps11
  go_wp2
  go_loopg [3, 4] 30000 (fun q v3 v4 wi => ∃ (i : Nat) (si : CS) (acc : List AT) (own' : Nat → Prop), v4 = .int .i64 (i : Int) ∧ Aside0 (q + i = 30000) ∧ Aside0 (X = (acc ++ (allV q si).1, (allV q si).2)) ∧ Aside0 (si.Gd ∧ si.b.length ≤ 65536) ∧ Aside0 (acc.length ≤ i) ∧ Aside0 (CRd w0.heap.size wi own' g si) ∧ Aside0 (∀ k, own' k → own k ∨ w.heap.size ≤ k) ∧ Aside0 (Kd.R k50 50 wi w0.heap.size (fun _ => True) v3 (acc.map cvA)) ∧ Aside0 (∀ k, v3.ownBlock = some k → w.heap.size ≤ k) ∧ Aside0 (KeptC w wi own) ∧ Aside0 (Below w0.heap.size w0 wi))
  case atStart => exact ⟨0, s, [], own, rfl, ⟨rfl⟩, ⟨by rw [List.nil_append, hX]⟩, HG, ⟨Nat.le_refl _⟩, HI, ⟨fun k h => .inl h⟩, ⟨Kd.R_nil _ _ _ _ _⟩, ⟨fun k h => by cases h⟩, HK, HB⟩
  case round =>
    clear HI HB HK HG hX
    obtain ⟨i, si, acc, own', rfl, HQ, HE, HG, HA, HI, HOW, HO, HV, HK, HB⟩ := hrel
    have HOWs := HOW
    by_cases hi : i < 30000
    · obtain ⟨qo, hqo⟩ : ∃ qo, gk = qo + 1 := ⟨30000 - i - 1, by have := HQ.out; omega⟩
      subst hqo
      have hi1 : decide ((i : Int) < 30000) = true := decide_eq_true (by omega)
      have hwi : wrap64 ((i : Int) + 1) = ((i + 1 : Nat) : Int) := by unfold wrap64; omega
      obtain ⟨⟨st, ⟨a1, a2, a3, a4, a5, a6, a7, a8, a9⟩, bb⟩, hnx⟩ : ∃ r, r = nextV si := ⟨_, rfl⟩
      have hng := next_good si HG.out.1
      have hnl := next_len si
      rw [← hnx] at hng hnl
      have HE2 := HE.out
      unfold allV at HE2
      rw [← hnx] at HE2
      have HG2 := Aside0.mk (show st.Gd ∧ st.b.length ≤ 65536 from ⟨hng.1, Nat.le_trans hnl HG.out.2⟩)
      clear hng hnl
      cases bb with
      | true =>
        have HE3 := Aside0.mk (show X = ((acc ++ [(a1, a2, a3, a4, a5, a6, a7, a8, a9)]) ++ (allV qo st).1, (allV qo st).2) by rw [HE2]; simp)
        clear HE HE2
        go_wp2_with (first | (go_at_call 13; have hgd_ := hnx; (have hv_ := CRd.next w0 wr own' g si HI.out HB.out HG.out.1 HG.out.2 HL.out; rw [← hnx] at hv_; dsimp only [askC] at hv_; (with_reducible refine hv_.mono ?_); rintro e_ w5 ⟨kv', own2, rfl, hI, hO2, hR2, hk, hB⟩; obtain ⟨A2, c2, rfl⟩ := Kd.R_slice hR2; have HR := Aside0.mk hR2; replace HO := Aside0.mk (R_keptC HO.out hk (by decide)); replace HOW := Aside0.mk (show ∀ k, own2 k → own k ∨ w.heap.size ≤ k from fun k e => (hO2 k e).elim (HOW.out k) (fun e => .inr (Nat.le_trans HK.out.1 e))); replace HK := Aside0.mk (HK.out.then_ hk HOWs.out); replace HI := Aside0.mk hI; replace HB := Aside0.mk hB; clear hv_ hnx hgd_ HOWs hI hO2 hR2 hk hB)) | ((with_reducible refine gate_dst (N := 5) rfl ?_); (refine bE 5 #[.int .i64 0, .int .i64 0, .slice none 0 0, .int .u32 0, .int .i64 0, .string ⟨#[]⟩, .int .u64 0, .int .u64 0, .bool false] 39 rfl rfl ?_; intro gx hgx w6 hbox hb; have BX := Aside0.mk hbox; have HGX := Aside0.mk (show w0.heap.size ≤ gx by rw [hgx]; exact HB.out.size); have HGX2 := Aside0.mk (show w.heap.size ≤ gx by rw [hgx]; exact HK.out.1); replace HK := Aside0.mk (HK.out.then_ (KeptC.of_below own2 hb) HOW.out); replace HI := Aside0.mk (HI.out.below hb); replace HB := Aside0.mk (below_step HB.out hb); replace HR := Aside0.mk (Kd.R_below HR.out hb); replace HO := Aside0.mk (Kd.R_below HO.out hb); obtain ⟨hcx, hfx⟩ := d9 BX; clear hbox hb hgx)) | (go_at_call 17; have hgd_ := hcx; (obtain ⟨w7, hw7⟩ : ∃ w_, w_ = (((((((((w6.setCell ⟨gx, 0, none⟩ (.int .i64 a1)).setCell ⟨gx, 1, none⟩ (.int .i64 a2)).setCell ⟨gx, 2, none⟩ (.slice A2 a3.length c2)).setCell ⟨gx, 3, none⟩ (.int .u32 a4)).setCell ⟨gx, 4, none⟩ (.int .i64 a5)).setCell ⟨gx, 5, none⟩ (.string a6)).setCell ⟨gx, 6, none⟩ (.int .u64 a7)).setCell ⟨gx, 7, none⟩ (.int .u64 a8)).setCell ⟨gx, 8, none⟩ (.bool a9)) := ⟨_, rfl⟩; have kb_ : KeepBut w6 w7 gx none := hw7 ▸ (by with_reducible repeat (first | exact KeepBut.refl _ _ _ | refine KeepBut.set_ ?_ _ _)); have hb_ : Below w0.heap.size w0 w7 := hw7 ▸ bH HB.out; replace HI := Aside0.mk (HI.out.far BX.out (by decide) kb_); replace HR := Aside0.mk (Kd.R_mono (Kd.R_keep (Kd.R_types HR.out BX.out (by decide)) kb_ (fun _ h => h.2)) (fun _ h => h.1)); replace HO := Aside0.mk (Kd.R_mono (Kd.R_keep (Kd.R_types HO.out BX.out (by decide)) kb_ (fun _ h => h.2)) (fun _ h => h.1)); replace HK := Aside0.mk (HK.out.new kb_ HGX2.out); replace HB := Aside0.mk hb_; rw [← hw7]; (with_reducible refine (from_calls w7 a1 a2 A2 a3.length c2 a4 a5 a6 a7 a8 a9).mono ?_); rintro e_ w8 ⟨rfl, hb⟩; replace HI := Aside0.mk (HI.out.below hb); replace HR := Aside0.mk (Kd.R_below HR.out hb); replace HO := Aside0.mk (Kd.R_below HO.out hb); replace HK := Aside0.mk (HK.out.then_ (KeptC.of_below own2 hb) HOW.out); replace HB := Aside0.mk (below_step HB.out hb); clear hw7 kb_ hb_ hb hgd_ hcx hfx BX HGX HGX2)) | ((with_reducible refine gate_builtin (b := .append) (xs := #[.tmp 18, .tmp 21]) rfl ?_); at_builtin; (refine Kd.R_append k50 (w0 := w0) w0.heap.size rfl (.tmp 18) (.tmp 21) 29 50 (.agg #[.int .i64 0, .int .i64 0, .slice none 0 0, .int .u32 0, .int .i64 0, .string ⟨#[]⟩, .int .u64 0, .int .u64 0, .bool false]) 96 rfl Tryd.underlying29 info_ask rfl (by decide) (by omega) u3 (acc.map cvA) (cvA (a1, a2, a3, a4, a5, a6, a7, a8, a9)) [.int .i64 a1, .int .i64 a2, .slice A2 a3.length c2, .int .u32 a4, .int .i64 a5, .string a6, .int .u64 a7, .int .u64 a8, .bool a9] (fun _ => True) (fun k => True ∧ some k ≠ u3.ownBlock) rfl rfl ?aP (fun _ h => h) (fun _ _ => trivial) HO.out HB.out HB.out.size ?aL ?_; (case aP => exact k50_mkM _ _ _ (cvA (a1, a2, a3, a4, a5, a6, a7, a8, a9)) (Kd.R_apart' HR.out (Kd.R_typed HO.out) (by decide))); (case aL => rw [List.length_map]; have := HA.out; omega); intro v1 w9 ho hb hg hat; replace HI := Aside0.mk (HI.out.grown hg (Kd.R_typed HO.out)); have hHKs := Aside0.mk HK.out.1; replace HK := Aside0.mk (HK.out.grown hg HV.out); have HV2 := Aside0.mk (show ∀ k, v1.ownBlock = some k → w.heap.size ≤ k from fun k e => hat.elim (fun h => HV.out k (h ▸ e)) (fun ⟨b_, h1, h2⟩ => by rw [h1] at e; injection e with e; rw [← e]; exact Nat.le_trans hHKs.out h2)); replace HO := Aside0.mk ho; replace HB := Aside0.mk hb; clear HV hHKs ho hb hg hat)))
        go_roundg qo
        case measure => omega
        case rel => exact ⟨i + 1, st, acc ++ [(a1, a2, a3, a4, a5, a6, a7, a8, a9)], own2, congrArg (Value.int .i64) (show ((i : Int) + 1) = ((i + 1 : Nat) : Int) by omega), ⟨by have := HQ.out; omega⟩, HE3, HG2, ⟨by rw [List.length_append, List.length_singleton]; have := HA.out; omega⟩, HI, HOW, ⟨by rw [List.map_append]; exact HO.out⟩, HV2, HK, HB⟩
      | false =>
        have HE3 := Aside0.mk (show X = (acc ++ [], st) from HE2)
        clear HE HE2
        go_wp2_with (first | (go_at_call 13; have hgd_ := hnx; (have hv_ := CRd.next w0 wr own' g si HI.out HB.out HG.out.1 HG.out.2 HL.out; rw [← hnx] at hv_; dsimp only [askC] at hv_; (with_reducible refine hv_.mono ?_); rintro e_ w5 ⟨kv', own2, rfl, hI, hO2, hR2, hk, hB⟩; obtain ⟨A2, c2, rfl⟩ := Kd.R_slice hR2; have HR := Aside0.mk hR2; replace HO := Aside0.mk (R_keptC HO.out hk (by decide)); replace HOW := Aside0.mk (show ∀ k, own2 k → own k ∨ w.heap.size ≤ k from fun k e => (hO2 k e).elim (HOW.out k) (fun e => .inr (Nat.le_trans HK.out.1 e))); replace HK := Aside0.mk (HK.out.then_ hk HOWs.out); replace HI := Aside0.mk hI; replace HB := Aside0.mk hB; clear hv_ hnx hgd_ HOWs hI hO2 hR2 hk hB)) | ((with_reducible refine gate_dst (N := 5) rfl ?_); (refine bE 5 #[.int .i64 0, .int .i64 0, .slice none 0 0, .int .u32 0, .int .i64 0, .string ⟨#[]⟩, .int .u64 0, .int .u64 0, .bool false] 39 rfl rfl ?_; intro gx hgx w6 hbox hb; have BX := Aside0.mk hbox; have HGX := Aside0.mk (show w0.heap.size ≤ gx by rw [hgx]; exact HB.out.size); have HGX2 := Aside0.mk (show w.heap.size ≤ gx by rw [hgx]; exact HK.out.1); replace HK := Aside0.mk (HK.out.then_ (KeptC.of_below own2 hb) HOW.out); replace HI := Aside0.mk (HI.out.below hb); replace HB := Aside0.mk (below_step HB.out hb); replace HR := Aside0.mk (Kd.R_below HR.out hb); replace HO := Aside0.mk (Kd.R_below HO.out hb); obtain ⟨hcx, hfx⟩ := d9 BX; clear hbox hb hgx)))
        go_ret
        have hX2 := HE3.out
        rw [List.append_nil] at hX2
        subst hX2
        exact ⟨_, own2, rfl, HI.out.far (b := gx) BX.out (by decide) (by with_reducible repeat (first | exact KeepBut.refl _ _ _ | refine KeepBut.set_ ?_ _ _)), HOW.out, Kd.R_mono (Kd.R_keep (Kd.R_types HO.out BX.out (by decide)) (by with_reducible repeat (first | exact KeepBut.refl _ _ _ | refine KeepBut.set_ ?_ _ _)) (fun _ h => h.2)) (fun _ h => h.1), HK.out.new (by with_reducible repeat (first | exact KeepBut.refl _ _ _ | refine KeepBut.set_ ?_ _ _)) HGX2.out, bH HB.out⟩
    · have hi1 : decide ((i : Int) < 30000) = false := decide_eq_false (by omega)
      obtain rfl : gk = 0 := by have := HQ.out; omega
      have HE3 := Aside0.mk (show X = (acc ++ [], si) from HE.out)
      clear HE hi
      go_wp2
      go_ret
      have hX2 := HE3.out
      rw [List.append_nil] at hX2
      subst hX2
      exact ⟨_, own', rfl, HI.out, HOW.out, HO.out, HK.out, HB.out⟩
end Go.Proofs.YtginfaencjmhgaaDoor.P
