/- tallboylaw19.works is true. Conditions: the readings that each theorem names. -/
import Derived.Test.YtginfaencjmhgaaDoorCn5
import Derived.Lib.SlBytesConst
import Derived.Lib.SmallJoins
namespace Go.Proofs.YtginfaencjmhgaaDoor.Pl
set_option linter.unusedVariables false
open Go Go.RowKit Go.Proofs.YtginfaencjmhgaaDoor.P Go.Proofs.YtginfaencjmhgaaDoor.Lim Go.Proofs.YtginfaencjmhgaaDoorW.PrintWords
def wb1 : List Int := [115, 101, 116, 32, 107, 32, 48, 32, 48, 32, 51, 13, 10, 97, 98]
def wb2 : List Int := [99, 13, 10, 103, 101, 116, 32, 107, 13, 10, 115, 101, 116, 32, 107, 32, 48, 32, 48, 32, 51, 13, 10, 97, 98, 99, 100, 13, 10, 103, 101, 116, 32, 107, 10]
def wasks (l : List AT) : Bool := match l with
  | [a, b, c, d] => a.1 == 1 && a.2.2.2.2.2.1.data.toList == [97, 98, 99] && b.2.1 == 1 && c.1 == 5 && d.1 == 1 && d.2.1 == 1
  | _ => false
def worksB : Bool := !(nextV ⟨wb1, 0, false, none⟩).2.2 && wasks (allV 30000 ((nextV ⟨wb1, 0, false, none⟩).1.add wb2)).1
set_option maxRecDepth 100000 in
theorem works_ok : worksB = true := by decide +kernel
theorem works_is : (nextV ⟨wb1, 0, false, none⟩).2.2 = false ∧ ∃ a b c d, (allV 30000 ((nextV ⟨wb1, 0, false, none⟩).1.add wb2)).1 = [a, b, c, d] ∧ a.1 = 1 ∧ a.2.2.2.2.2.1.toList = [97, 98, 99] ∧ b.2.1 = 1 ∧ c.1 = 5 ∧ d.1 = 1 ∧ d.2.1 = 1 := by
  have h := works_ok
  unfold worksB at h
  rw [Bool.and_eq_true] at h
  refine ⟨by simpa using h.1, ?_⟩
  have h2 := h.2
  generalize (allV 30000 ((nextV ⟨wb1, 0, false, none⟩).1.add wb2)).1 = l at h2
  unfold wasks at h2
  split at h2
  · rename_i a b c d
    simp only [Bool.and_eq_true, beq_iff_eq] at h2
    obtain ⟨⟨⟨⟨⟨q1, q2⟩, q3⟩, q4⟩, q5⟩, q6⟩ := h2
    exact ⟨a, b, c, d, rfl, q1, by rw [toList_data]; exact q2, q3, q4, q5, q6⟩
  · cases h2
end Go.Proofs.YtginfaencjmhgaaDoor.Pl
namespace Go.Proofs.YtginfaencjmhgaaDoor.P
open Go.RowKit Go.Proofs.YtginfaencjmhgaaDoorW.PrintWords Go.Proofs.YtginfaencjmhgaaDoorW.PrintLast Go.Proofs.YtginfaencjmhgaaDoorW.PrintMore Go.Proofs.YtginfaencjmhgaaDoor.Pl
set_option linter.unusedVariables false
set_option linter.unusedSimpArgs false
theorem add0 (a : Addr) : a.add 0 = a := by simp [Addr.add]
theorem lit_C (W : World) (xs : List Int) (fr : Nat × Nat) (h : xs.length ≤ 1000) : kB.C (W.alloc (.cells (xs.map (Value.int .u8)).toArray 5 fr)) (some ⟨W.heap.size, 0, none⟩) xs.length xs := by
  refine ⟨rfl, by omega, fun _ => ⟨_, rfl, fun j p hp => ⟨[.int .u8 p], rfl, rfl, fun i u hu => ?_⟩⟩⟩
  cases i with
  | succ i => simp at hu
  | zero =>
    obtain rfl : Value.int .u8 p = u := by simpa using hu
    have q := World.cell?_alloc_mark W (xs.map (Value.int .u8)).toArray 5 fr j
    have e : (⟨W.heap.size, 0, none⟩ : Addr).add j = ⟨W.heap.size, j, none⟩ := by unfold Addr.add; split <;> simp_all
    rw [show j * kB.sz + 0 = j by simp [show kB.sz = 1 from rfl], e]
    simpa [hp] using q
set_option maxHeartbeats 8000000 in
set_option maxRecDepth 100000 in
theorem works_calls (w : World) (hL : LdS w) : Calls Tryd.prog 8 #[] w fun e w' => e = .returned (.bool true) ∧ Below w.heap.size w w' := by
  have HL := Aside0.mk hL
  have HB := Aside0.mk (Below.refl w.heap.size w)
  have hw := works_is
  have hgd := next_good ⟨wb1, 0, false, none⟩ (good0 wb1)
  have hln := next_len ⟨wb1, 0, false, none⟩
  obtain ⟨⟨st, ⟨a1, a2, a3, a4, a5, a6, a7, a8, a9⟩, bb⟩, hn1⟩ : ∃ r, r = nextV ⟨wb1, 0, false, none⟩ := ⟨_, rfl⟩
  rw [← hn1] at hw hgd hln
  obtain ⟨hbb, a, b, c, d, hX1, z1, z2, z3, z4, z5, z6⟩ := hw
  obtain rfl : bb = false := hbb
  have hln : st.b.length ≤ 15 := hln
  have hst : st.b.length + 35 ≤ 65536 := by omega
  have hGd : (st.add wb2).Gd := add_good hgd.1 wb2
  have hl65 : (st.add wb2).b.length ≤ 65536 := by
    show (st.b ++ wb2).length ≤ _
    rw [List.length_append]
    have : wb2.length = 35 := rfl
    omega
  dsimp only at hX1
  obtain ⟨X, hX⟩ : ∃ X, X = allV 30000 (st.add wb2) := ⟨_, rfl⟩
  rw [← hX] at hX1
  clear hL hgd hln
  go_enter Tryd.func8, Tryd.ntmps8
  go_wp2_with (first | (go_at_call 9; ((with_reducible refine (CRd.new w _ HB.out).mono ?_); rintro e_ w1 ⟨g, rfl, hI, hg, hB, hb⟩; have HI := Aside0.mk hI; replace HB := Aside0.mk hB; have hcv1 := Lib.run_convert_bytes_const (P := Tryd.prog) w1 22 5 #[.int .u8 115, .int .u8 101, .int .u8 116, .int .u8 32, .int .u8 107, .int .u8 32, .int .u8 48, .int .u8 32, .int .u8 48, .int .u8 32, .int .u8 51, .int .u8 13, .int .u8 10, .int .u8 97, .int .u8 98] 15 15 Tryd.underlying22 Tryd.underlying5; clear hI hg hB hb)) | (go_at_call 10; have hgd_ := hn1; ((with_reducible refine (CRd.feed w _ (fun k => k = g) g s0 _ _ 15 wb1 rfl (HI.out.below (below_alloc (Below.refl _ _) _)) (below_alloc HB.out _) (lit_C _ wb1 (15, 16) (by decide)) (by decide)).mono ?_); rintro e_ w3 ⟨rfl, own1, hI, hO, hk, hB⟩; replace HI := Aside0.mk (show CRd w.heap.size w3 own1 g ⟨wb1, 0, false, none⟩ from hI); replace HB := Aside0.mk hB; have hn2 := hn1; clear hn1 hgd_ hI hO hk hB)) | (go_at_call 13; have hgd_ := hn2; (have hv_ := CRd.next w w3 own1 g ⟨wb1, 0, false, none⟩ HI.out HB.out (good0 wb1) (by decide) HL.out; rw [← hn2] at hv_; dsimp only [askC] at hv_; (with_reducible refine hv_.mono ?_); rintro e_ w4 ⟨kv', own2, rfl, hI, hO2, hR2, hk, hB⟩; obtain ⟨A2, c2, rfl⟩ := Kd.R_slice hR2; replace HI := Aside0.mk hI; replace HB := Aside0.mk hB; clear hv_ hn2 hgd_ hI hO2 hR2 hk hB)) | ((with_reducible refine gate_dst (N := 2) rfl ?_); (refine bE 2 #[.int .i64 0, .int .i64 0, .slice none 0 0, .int .u32 0, .int .i64 0, .string ⟨#[]⟩, .int .u64 0, .int .u64 0, .bool false] 39 rfl rfl ?_; intro gx hgx w5 hbox hb; have BX := Aside0.mk hbox; have HGX := Aside0.mk (show w.heap.size ≤ gx by rw [hgx]; exact HB.out.size); replace HI := Aside0.mk (HI.out.below hb); replace HB := Aside0.mk (below_step HB.out hb); obtain ⟨hcx, hfx⟩ := d9 BX; clear hbox hb hgx)) | ((with_reducible refine gate_dst (N := 21) rfl ?_); have hgd_ := hcx; (obtain ⟨w6, hw6⟩ : ∃ w_, w_ = (((((((((w5.setCell ⟨gx, 0, none⟩ (.int .i64 a1)).setCell ⟨gx, 1, none⟩ (.int .i64 a2)).setCell ⟨gx, 2, none⟩ (.slice A2 a3.length c2)).setCell ⟨gx, 3, none⟩ (.int .u32 a4)).setCell ⟨gx, 4, none⟩ (.int .i64 a5)).setCell ⟨gx, 5, none⟩ (.string a6)).setCell ⟨gx, 6, none⟩ (.int .u64 a7)).setCell ⟨gx, 7, none⟩ (.int .u64 a8)).setCell ⟨gx, 8, none⟩ (.bool a9)) := ⟨_, rfl⟩; have kb_ : KeepBut w5 w6 gx none := hw6 ▸ (by with_reducible repeat (first | exact KeepBut.refl _ _ _ | refine KeepBut.set_ ?_ _ _)); have hb_ : Below w.heap.size w w6 := hw6 ▸ bH HB.out; replace HI := Aside0.mk (HI.out.far BX.out (by decide) kb_); replace HB := Aside0.mk hb_; rw [← hw6]; have hcv2 := Lib.run_convert_bytes_const (P := Tryd.prog) w6 22 5 #[.int .u8 99, .int .u8 13, .int .u8 10, .int .u8 103, .int .u8 101, .int .u8 116, .int .u8 32, .int .u8 107, .int .u8 13, .int .u8 10, .int .u8 115, .int .u8 101, .int .u8 116, .int .u8 32, .int .u8 107, .int .u8 32, .int .u8 48, .int .u8 32, .int .u8 48, .int .u8 32, .int .u8 51, .int .u8 13, .int .u8 10, .int .u8 97, .int .u8 98, .int .u8 99, .int .u8 100, .int .u8 13, .int .u8 10, .int .u8 103, .int .u8 101, .int .u8 116, .int .u8 32, .int .u8 107, .int .u8 10] 35 35 Tryd.underlying22 Tryd.underlying5; clear hw6 kb_ hb_ hgd_ hcx hfx BX HGX)) | (go_at_call 10; have hgd_ := hcv2; ((with_reducible refine (CRd.feed w _ own2 g st _ _ 35 wb2 rfl (HI.out.below (below_alloc (Below.refl _ _) _)) (below_alloc HB.out _) (lit_C _ wb2 (35, 36) (by decide)) hst).mono ?_); rintro e_ w7 ⟨rfl, own3, hI, hO, hk, hB⟩; replace HI := Aside0.mk hI; replace HB := Aside0.mk hB; clear hcv2 hgd_ hI hO hk hB)) | (go_at_call 11; have hgd_ := hX; (have hv_ := CRd.all w w7 own3 g (st.add wb2) HI.out HB.out hGd hl65 HL.out; rw [← hX, hX1] at hv_; (with_reducible refine hv_.mono ?_); rintro e_ w8 ⟨v, own4, rfl, hI, hO, hR, hk, hB⟩; obtain ⟨A3, c3, rfl⟩ := Kd.R_slice hR; have hC := (Kd.R_reads' hR).2.2; replace HB := Aside0.mk hB; obtain ⟨ad, Aa, ca, rfl, p0, p1, p2, p3, p4, p5, p6, p7, p8, _⟩ := at_T50 hC 0 (by decide) (by simp); obtain ⟨ad1, Ab, cb, e1, q0, q1, q2, q3, q4, q5, q6, q7, q8, _⟩ := at_T50 hC 1 (by decide) (by simp); obtain rfl := Option.some.inj e1; obtain ⟨ad2, Ac, cc, e2, r0, r1, r2, r3, r4, r5, r6, r7, r8, _⟩ := at_T50 hC 2 (by decide) (by simp); obtain rfl := Option.some.inj e2; obtain ⟨ad3, Ad, cd, e3, t0, t1, t2, t3, t4, t5, t6, t7, t8, _⟩ := at_T50 hC 3 (by decide) (by simp); obtain rfl := Option.some.inj e3; have f0 : w8.cell? ad = some (.int .i64 1) := (by have h := p0; rw [show rd_T50 ((([a, b, c, d] : List AT)).map cvA) 0 = cvA a from rfl, show (cvA a).f0 = 1 from z1] at h; simpa [add0, Addr.add] using h); have f5 : w8.cell? ⟨ad.block, ad.off + 5, none⟩ = some (.string a.2.2.2.2.2.1) := (by have h := p5; rw [show rd_T50 ((([a, b, c, d] : List AT)).map cvA) 0 = cvA a from rfl, show (cvA a).f1.f4 = a.2.2.2.2.2.1 from rfl] at h; simpa [add0, Addr.add] using h); have g1 : w8.cell? ⟨ad.block, ad.off + 10, none⟩ = some (.int .i64 1) := (by have h := q1; rw [show rd_T50 ((([a, b, c, d] : List AT)).map cvA) 1 = cvA b from rfl, show (cvA b).f1.f0 = 1 from z3] at h; simpa [add0, Addr.add] using h); have k0 : w8.cell? ⟨ad.block, ad.off + 18, none⟩ = some (.int .i64 5) := (by have h := r0; rw [show rd_T50 ((([a, b, c, d] : List AT)).map cvA) 2 = cvA c from rfl, show (cvA c).f0 = 5 from z4] at h; simpa [add0, Addr.add] using h); have m0 : w8.cell? ⟨ad.block, ad.off + 27, none⟩ = some (.int .i64 1) := (by have h := t0; rw [show rd_T50 ((([a, b, c, d] : List AT)).map cvA) 3 = cvA d from rfl, show (cvA d).f0 = 1 from z5] at h; simpa [add0, Addr.add] using h); have m1 : w8.cell? ⟨ad.block, ad.off + 28, none⟩ = some (.int .i64 1) := (by have h := t1; rw [show rd_T50 ((([a, b, c, d] : List AT)).map cvA) 3 = cvA d from rfl, show (cvA d).f1.f0 = 1 from z6] at h; simpa [add0, Addr.add] using h); have hE : (a.2.2.2.2.2.1.toList == ([97, 98, 99] : List UInt8)) = true := beq_iff_eq.2 z2; clear hv_ hX hX1 hgd_ hI hO hR hk hB hC p0 p1 p2 p3 p4 p5 p6 p7 p8 q0 q1 q2 q3 q4 q5 q6 q7 q8 r0 r1 r2 r3 r4 r5 r6 r7 r8 t0 t1 t2 t3 t4 t5 t6 t7 t8)))
  go_ret
  exact ⟨rfl, HB.out⟩
end Go.Proofs.YtginfaencjmhgaaDoor.P
