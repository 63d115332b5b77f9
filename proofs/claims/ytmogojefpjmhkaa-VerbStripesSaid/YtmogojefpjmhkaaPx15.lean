/- Lean functions for the Go functions that the laws of this seat use, and the proofs that the Go code computes them; conditions: the readings that each theorem names. Written by a program. -/
import Derived.Test.YtmogojefpjmhkaaPx0
import Derived.Test.YtmogojefpjmhkaaPx14
import Derived.Test.YtmogojefpjmhkaaShort
import Derived.Test.YtmogojefpjmhkaaLaws
namespace Go.Proofs.Ytmogojefpjmhkaa.P
open Go.RowKit Go.Proofs.YtmogojefpjmhkaaW.PrintWords Go.Proofs.YtmogojefpjmhkaaW.PrintLast Go.Proofs.YtmogojefpjmhkaaW.PrintMore
set_option linter.unusedVariables false
set_option linter.unusedSimpArgs false

-- HAND
-- FN tallboy/verb.Stripes
-- ROUNDS 1
-- MAKING 1
-- IMPORT Derived.Test.YtmogojefpjmhkaaLaws
/-! ### verb.Stripes: an array of bools in memory -/
def verb_Stripes.mark (k : Nat) : List Bool → List ByteArray → Option (List Bool)
 | bs, [] => some bs
 | bs, x :: xs => (fnv_Sum.f k x).bind fun n => (fnv_Stripe.f n).bind fun s => if 0 ≤ s ∧ s < 4 then verb_Stripes.mark k (bs.set s.toNat true) xs else none
def verb_Stripes.upto (bs : List Bool) (kind : Int) (n : Nat) : List Int := (([0, 1, 2, 3] : List Int).take n).filter fun s => bs.getD s.toNat false || decide (kind = 15)
def verb_Stripes.f (k : Nat) (a0_0 : Int) (l0_1 : List ByteArray) (a0_2 : Int) (a0_3 : Int) (a0_4 : ByteArray) (a0_5 : Int) (a0_6 : Int) (a0_7 : Bool) : Option (List Int) := (verb_Stripes.mark k [false, false, false, false] l0_1).bind fun bs => some (verb_Stripes.upto bs a0_0 4)
theorem verb_Stripes.mono_mark (k : Nat) : ∀ l bs, LeO (verb_Stripes.mark k bs l) (verb_Stripes.mark (k + 1) bs l)
 | [], _ => LeO.refl _
 | x :: xs, bs => by
  unfold verb_Stripes.mark; refine LeO.bind (fnv_Sum.mono _ _) (fun n => ?_)
  refine LeO.bind (LeO.refl _) (fun s => ?_)
  exact LeO.ite (verb_Stripes.mono_mark k xs _) (LeO.none _)
theorem verb_Stripes.mono : ∀ a0_0 l0_1 a0_2 a0_3 a0_4 a0_5 a0_6 a0_7 k, LeO (verb_Stripes.f k a0_0 l0_1 a0_2 a0_3 a0_4 a0_5 a0_6 a0_7) (verb_Stripes.f (k + 1) a0_0 l0_1 a0_2 a0_3 a0_4 a0_5 a0_6 a0_7) := by
 intro a0_0 l0_1 a0_2 a0_3 a0_4 a0_5 a0_6 a0_7 k
 exact LeO.bind (verb_Stripes.mono_mark k l0_1 _) (fun _ => LeO.refl _)
theorem verb_Stripes.step (bs : List Bool) (kind : Int) (n : Nat) (hn : n < 4) : verb_Stripes.upto bs kind (n + 1) = verb_Stripes.upto bs kind n ++ (if (bs.getD n false || decide (kind = 15)) = true then [(n : Int)] else []) := by
 unfold verb_Stripes.upto
 match n, hn with
 | 0, _ => simp [List.filter_cons]
 | 1, _ => simp [List.filter_cons]; split <;> rfl
 | 2, _ => simp [List.filter_cons]; split <;> split <;> rfl
 | 3, _ => simp [List.filter_cons]; split <;> split <;> split <;> rfl
theorem verb_Stripes.short (bs : List Bool) (kind : Int) (n : Nat) : (verb_Stripes.upto bs kind n).length ≤ 4 := by
 unfold verb_Stripes.upto; exact Nat.le_trans (List.length_filter_le _ _) (Nat.le_trans (List.length_take_le' _ _) (by decide))
theorem verb_Stripes.infoI : (Try.prog.info? 3).map (fun i => (i.zero, i.size, i.bytes)) = some (some (.int .i64 0), 1, 8) := by kernel_rfl
theorem verb_Stripes.infoB : (Try.prog.info? 4).map (fun i => i.size) = some 1 := by kernel_rfl
theorem verb_Stripes.at_ (b0 b1 b2 b3 : Bool) (n : Nat) (hn : n < 4) : (#[.bool b0, .bool b1, .bool b2, .bool b3] : Array Value)[n]? = some (.bool ([b0, b1, b2, b3].getD n false)) := by
 match n, hn with
 | 0, _ => rfl
 | 1, _ => rfl
 | 2, _ => rfl
 | 3, _ => rfl
theorem verb_Stripes.put (b0 b1 b2 b3 : Bool) (n : Nat) (hn : n < 4) : ∃ c0 c1 c2 c3, [b0, b1, b2, b3].set n true = [c0, c1, c2, c3] ∧ (#[.bool b0, .bool b1, .bool b2, .bool b3] : Array Value).setIfInBounds n (.bool true) = #[.bool c0, .bool c1, .bool c2, .bool c3] := by
 match n, hn with
 | 0, _ => exact ⟨true, b1, b2, b3, rfl, rfl⟩
 | 1, _ => exact ⟨b0, true, b2, b3, rfl, rfl⟩
 | 2, _ => exact ⟨b0, b1, true, b3, rfl, rfl⟩
 | 3, _ => exact ⟨b0, b1, b2, true, rfl, rfl⟩
set_option maxHeartbeats 8000000 in
set_option maxRecDepth 100000 in
theorem verb_Stripes.calls (k : Nat) (a0_0 : Int) (A0_1 : Option Addr) (c0_1 : Nat) (l0_1 : List ByteArray) (a0_2 : Int) (a0_3 : Int) (a0_4 : ByteArray) (a0_5 : Int) (a0_6 : Int) (a0_7 : Bool) (r : List Int) (w : World) (hr0_1 : Kd.C Kd.string w A0_1 l0_1.length l0_1) (hc0_1 : l0_1.length ≤ c0_1) (h : verb_Stripes.f k a0_0 l0_1 a0_2 a0_3 a0_4 a0_5 a0_6 a0_7 = some r) :
  Calls Try.prog 21 #[.agg #[.int .i64 a0_0, .slice A0_1 l0_1.length c0_1, .int .u32 a0_2, .int .i64 a0_3, .string a0_4, .int .u64 a0_5, .int .u64 a0_6, .bool a0_7]] w fun e w' => ∃ v0_ : Value, e = .returned (v0_) ∧ Kd.R (Kd.int .i64) 3 w' w.heap.size (fun _ => True) v0_ r ∧ Below w.heap.size w w' := by
 have huC := Try.underlying30; obtain ⟨bs, hm, hr⟩ := Option.bind_eq_some_iff.mp h; have HM := Aside0.mk hm; have HE := Aside0.mk (Option.some.inj hr); have HR0_1 := Aside0.mk hr0_1; have HC0_1 := Aside0.mk hc0_1; have HL := Aside0.mk hr0_1.2.1; clear hr0_1 hc0_1 h hm hr; have HB := Aside0.mk (Below.refl w.heap.size w); go_enter Try.func21, Try.ntmps21
 go_wp2_with (first | ((with_reducible refine gate_dst (N := 1) rfl ?_); refine box_event ?hg (N := 1) ?hd (cs := #[.int .i64 a0_0, .slice A0_1 l0_1.length c0_1, .int .u32 a0_2, .int .i64 a0_3, .string a0_4, .int .u64 a0_5, .int .u64 a0_6, .bool a0_7]) (t := 30) ?hr ?_; (case hd => rfl); (case hg => rfl); (case hr => first | (go_simp; done) | (go_simp; rfl)); intro g0 hg w2 hbox hb; have n0_ := Aside0.mk (below_step HB.out hb); have n1_ := Aside0.mk (hbox); have n2_ := Aside0.mk (by rw [hg]; exact below_size HB.out : w.heap.size ≤ g0); clear HB; have HB := n0_; have BK0 := n1_; have GE0 := n2_; clear n0_ n1_ n2_; clear hb hbox hg; have hcz1 : w2.cell? ⟨g0, 1, none⟩ = some (.slice A0_1 l0_1.length c0_1) := (blk_cell BK0.out 1).trans rfl) | ((with_reducible refine gate_dst (N := 3) rfl ?_); refine box_event ?hg (N := 3) ?hd (cs := #[.bool false, .bool false, .bool false, .bool false]) (t := 47) ?hr ?_; (case hd => rfl); (case hg => rfl); (case hr => first | (go_simp; done) | (go_simp; rfl)); intro g1 hg w3 hbox hb; have n0_ := Aside0.mk (below_step HB.out hb); have n1_ := Aside0.mk (blk_below BK0.out hb); have n2_ := Aside0.mk (hbox); have n3_ := Aside0.mk (by rw [hg]; exact below_size HB.out : w.heap.size ≤ g1); clear HB BK0 hcz1; have HB := n0_; have BK0 := n1_; have BK1 := n2_; have GE1 := n3_; clear n0_ n1_ n2_ n3_; clear hb hbox hg; have hcz1 : w3.cell? ⟨g0, 1, none⟩ = some (.slice A0_1 l0_1.length c0_1) := (blk_cell BK0.out 1).trans rfl))
 have NE := Aside0.mk (blk_ne BK0.out BK1.out (by decide)); clear hcz1
 go_loopw [12] (fun v12 w' => ∃ (n : Nat) (b0 b1 b2 b3 : Bool), n ≤ l0_1.length ∧ v12 = .int .i64 n ∧ Aside0 (verb_Stripes.mark k [b0, b1, b2, b3] (l0_1.drop n) = some bs) ∧ Aside0 (w'.heap[g0]? = some (.cells #[.int .i64 a0_0, .slice A0_1 l0_1.length c0_1, .int .u32 a0_2, .int .i64 a0_3, .string a0_4, .int .u64 a0_5, .int .u64 a0_6, .bool a0_7] 30 (0, 0))) ∧ Aside0 (w'.heap[g1]? = some (.cells #[.bool b0, .bool b1, .bool b2, .bool b3] 47 (0, 0))) ∧ Aside0 (Below w.heap.size w w')) (fun v12 _ => l0_1.length - (intOf v12).toNat)
 case atStart => exact ⟨0, false, false, false, false, Nat.zero_le _, rfl, HM, BK0, BK1, HB⟩
 case round =>
  clear HM BK0 BK1 HB; obtain ⟨n, b0, b1, b2, b3, hn, rfl, HM, BK0, BK1, HB⟩ := hrel; have HL2 : l0_1.length ≤ 9223372036854775807 := HL.out
  by_cases hlt : n < l0_1.length
  ·have h1 := HM.out; rw [List.drop_eq_getElem_cons hlt, verb_Stripes.mark] at h1; obtain ⟨sum, hs, h2⟩ := Option.bind_eq_some_iff.mp h1; obtain ⟨st, ht, h3⟩ := Option.bind_eq_some_iff.mp h2
   by_cases hr : 0 ≤ st ∧ st < 4
   ·rw [if_pos hr] at h3
    have hx : l0_1[n] = rdOf ByteArray.empty l0_1 (n : Int) := by
     unfold rdOf; rw [Int.toNat_natCast, List.getD_eq_getElem?_getD, List.getElem?_eq_getElem hlt]
     rfl
    rw [hx] at hs; obtain ⟨q, rfl⟩ := Int.eq_ofNat_of_zero_le hr.1; rw [Int.toNat_natCast] at h3; have hq : q < 4 := by omega
    obtain ⟨c0, c1, c2, c3, e1, e2⟩ := verb_Stripes.put b0 b1 b2 b3 q hq; rw [e1] at h3; have HS := Aside0.mk hs; have HT := Aside0.mk ht; have HM2 := Aside0.mk h3; have HE2 := Aside0.mk e2; clear h1 hs h2 ht h3 hx hr e1 e2 HM; obtain ⟨ad, rfl, hcell⟩ := Kd.at_string HR0_1.out (n : Int) (by omega) (by omega); have hcell2 := (HB.out.cell (World.block_lt_of_cell? w _ hcell)).trans hcell; clear hcell; rw [Int.toNat_natCast] at hcell2; have hf1 : wr.frozen? ⟨g1, q, none⟩ = false := blk_frozen BK1.out q; have hc1 : wr.cell? ⟨g1, q, none⟩ = some (.bool ([b0, b1, b2, b3].getD q false)) := (blk_cell BK1.out q).trans (verb_Stripes.at_ b0 b1 b2 b3 q hq); generalize hob : ([b0, b1, b2, b3].getD q false) = ob at hc1; clear hob
    go_wp2_with (first | (go_at_call 35; (with_reducible refine (fnv_Sum.calls k _ sum _ HS.out).mono ?_); rintro e w' ⟨rfl, ⟨nd, rfl⟩⟩) | (go_at_call 34; (with_reducible refine (fnv_Stripe.calls sum (q : Int) _ HT.out).mono ?_); rintro e w' ⟨rfl, ⟨nd2, rfl⟩⟩))
    go_roundw
    case rel => exact ⟨n + 1, c0, c1, c2, c3, by omega, by go_num, HM2, ⟨blk_far BK0.out NE.out _⟩, ⟨blk_put BK1.out q _ HE2.out⟩, ⟨eS (eN HB.out _) GE1.out⟩⟩
    case measure => simp [intOf]; omega
   ·rw [if_neg hr] at h3; exact absurd h3 (by simp)
  ·have h1 := HM.out; rw [List.drop_eq_nil_of_le (by omega), verb_Stripes.mark] at h1; have hbs : bs = [b0, b1, b2, b3] := (Option.some.inj h1).symm; have HBS := Aside0.mk hbs; clear h1 hbs HM hn; have hcz0 : wr.cell? ⟨g1, 0, none⟩ = some (.bool b0) := (blk_cell BK1.out 0).trans rfl; have hcz1 : wr.cell? ⟨g1, 1, none⟩ = some (.bool b1) := (blk_cell BK1.out 1).trans rfl; have hcz2 : wr.cell? ⟨g1, 2, none⟩ = some (.bool b2) := (blk_cell BK1.out 2).trans rfl; have hcz3 : wr.cell? ⟨g1, 3, none⟩ = some (.bool b3) := (blk_cell BK1.out 3).trans rfl; go_wp2; clear hcz0 hcz1 hcz2 hcz3
   go_loopw [6, 22] (fun v6 v22 w' => ∃ (n : Nat), n ≤ 4 ∧ v22 = .int .i64 n ∧ Aside0 (Kd.R (Kd.int .i64) 3 w' w.heap.size (fun _ => True) v6 (verb_Stripes.upto [b0, b1, b2, b3] a0_0 n)) ∧ Aside0 (w'.heap[g0]? = some (.cells #[.int .i64 a0_0, .slice A0_1 l0_1.length c0_1, .int .u32 a0_2, .int .i64 a0_3, .string a0_4, .int .u64 a0_5, .int .u64 a0_6, .bool a0_7] 30 (0, 0))) ∧ Aside0 (Below w.heap.size w w')) (fun _ v22 _ => 4 - (intOf v22).toNat)
   case atStart => exact ⟨0, Nat.zero_le _, rfl, ⟨Kd.R_nil _ _ _ _ _⟩, BK0, HB⟩
   case round =>
    clear BK0 BK1 HB; obtain ⟨m, hm, rfl, HO, BK0, HB⟩ := hrel
    by_cases hlt2 : m < 4
    ·obtain ⟨inf, hi, hs⟩ := Option.map_eq_some_iff.1 verb_Stripes.infoB
     have hI : ∀ w : World, (Instr.index 47 (.agg #[.bool b0, .bool b1, .bool b2, .bool b3]) (.int .i64 (m : Int))).run Try.prog w = .ok (.bool ([b0, b1, b2, b3].getD m false)) w := fun w =>
      Laws.run_index_bools 47 4 4 _ .i64 m _ Try.underlying47 Try.underlying4 hi hs (by omega) (by omega) (by rw [Int.toNat_natCast]; exact verb_Stripes.at_ b0 b1 b2 b3 m hlt2) w
     have HST := Aside0.mk (verb_Stripes.step [b0, b1, b2, b3] a0_0 m hlt2); have HSH := Aside0.mk (verb_Stripes.short [b0, b1, b2, b3] a0_0 m); generalize hbm : ([b0, b1, b2, b3].getD m false) = bm at hI HST; generalize hx : verb_Stripes.upto [b0, b1, b2, b3] a0_0 m = xs at HO HST HSH; clear hbm hx hi hs; have hcz : wr.cell? ⟨g0, 0, none⟩ = some (.int .i64 a0_0) := (blk_cell BK0.out 0).trans rfl
     by_cases hyes : (bm || decide (a0_0 = 15)) = true
     ·have hs2 := HST.out; rw [if_pos hyes] at hs2; have HN := Aside0.mk hs2; clear hs2 HST; cases bm with
      | true =>
       clear hyes
       go_wp2_with (first | ((with_reducible refine gate_builtin (b := .append) (xs := #[.tmp 32, .tmp 34]) rfl ?_); at_builtin; refine Kd.R_append (Kd.int .i64) (w0 := w) w.heap.size rfl (.tmp 32) (.tmp 34) 36 3 (.int .i64 0) 8 rfl Try.underlying36 verb_Stripes.infoI rfl (by decide) (by omega) u6 xs (m : Int) [.int .i64 (m : Int)] (fun _ => True) (fun _ => False) rfl rfl ?aP (fun _ hk => hk.elim) ?aF ?aO ?aB ?aS ?aL ?_; (case aP => exact rfl); (case aB => exact (by repeat (first | (with_reducible first | exact HB.out | apply eA | apply eN | apply eD) | exact HB.out))); (case aF => exact (fun _ _ => trivial)); (case aO => exact (by (with_reducible repeat (first | apply Kd.R_alloc | apply Kd.R_drewN | apply Kd.R_drew)); exact HO.out)); (case aS => exact (below_size (by repeat (first | (with_reducible first | exact HB.out | apply eA | apply eN | apply eD) | exact HB.out)))); (case aL => have := HSH.out; omega); intro v9 w9 ho hb hg hat; have n0_ := Aside0.mk (blk_grown (by (with_reducible repeat (first | refine bN ?_ _ | refine bD ?_ | refine bA ?_ _)); exact BK0.out) hg (Kd.R_ne HO.out BK0.out (by decide))); have n1_ := Aside0.mk hb; have n2_ := Aside0.mk ho; clear hcz BK0 HB HO; have BK0 := n0_; have HB := n1_; have HO := n2_; clear n0_ n1_ n2_ ho hb hg hat))
       go_roundw
       case rel => exact ⟨m + 1, by omega, by go_num, ⟨by rw [HN.out]; exact HO.out⟩, BK0, HB⟩
       case measure => simp [intOf]; omega
      | false =>
       have hk : a0_0 = 15 := by simpa using hyes
       have hkb : (a0_0 == 15) = true := beq_iff_eq.2 hk; clear hyes hk
       go_wp2_with (first | ((with_reducible refine gate_builtin (b := .append) (xs := #[.tmp 32, .tmp 34]) rfl ?_); at_builtin; refine Kd.R_append (Kd.int .i64) (w0 := w) w.heap.size rfl (.tmp 32) (.tmp 34) 36 3 (.int .i64 0) 8 rfl Try.underlying36 verb_Stripes.infoI rfl (by decide) (by omega) u6 xs (m : Int) [.int .i64 (m : Int)] (fun _ => True) (fun _ => False) rfl rfl ?aP (fun _ hk => hk.elim) ?aF ?aO ?aB ?aS ?aL ?_; (case aP => exact rfl); (case aB => exact (by repeat (first | (with_reducible first | exact HB.out | apply eA | apply eN | apply eD) | exact HB.out))); (case aF => exact (fun _ _ => trivial)); (case aO => exact (by (with_reducible repeat (first | apply Kd.R_alloc | apply Kd.R_drewN | apply Kd.R_drew)); exact HO.out)); (case aS => exact (below_size (by repeat (first | (with_reducible first | exact HB.out | apply eA | apply eN | apply eD) | exact HB.out)))); (case aL => have := HSH.out; omega); intro v9 w9 ho hb hg hat; have n0_ := Aside0.mk (blk_grown (by (with_reducible repeat (first | refine bN ?_ _ | refine bD ?_ | refine bA ?_ _)); exact BK0.out) hg (Kd.R_ne HO.out BK0.out (by decide))); have n1_ := Aside0.mk hb; have n2_ := Aside0.mk ho; clear hcz BK0 HB HO; have BK0 := n0_; have HB := n1_; have HO := n2_; clear n0_ n1_ n2_ ho hb hg hat))
       go_roundw
       case rel => exact ⟨m + 1, by omega, by go_num, ⟨by rw [HN.out]; exact HO.out⟩, BK0, HB⟩
       case measure => simp [intOf]; omega
     ·have hs2 := HST.out; rw [if_neg hyes, List.append_nil] at hs2; have HN := Aside0.mk hs2; clear hs2 HST; cases bm with
      | true => exact absurd rfl hyes
      | false =>
       have hk : ¬ a0_0 = 15 := by simpa using hyes
       have hkb : (a0_0 == 15) = false := beq_eq_false_iff_ne.2 hk; clear hyes hk; go_wp2
       go_roundw
       case rel => exact ⟨m + 1, by omega, by go_num, ⟨by rw [HN.out]; exact HO.out⟩, BK0, HB⟩
       case measure => simp [intOf]; omega
    ·obtain rfl : m = 4 := by omega
     have HO2 := HO.out; rw [← HBS.out, HE.out] at HO2; have HO3 := Aside0.mk HO2; clear HO2; go_wp2; go_ret
     exact ⟨_, rfl, HO3.out, HB.out⟩

end Go.Proofs.Ytmogojefpjmhkaa.P
