/- A connection's clean: what is to be swallowed is. Conditions: the readings that each theorem names. -/
import Derived.Test.YtginfaencjmhgaaDoorCn1
import Derived.Deep.QuietTactic
import Derived.BigQuiet
import Derived.Test.YtginfaencjmhgaaDoorShelf
namespace Go.Proofs.YtginfaencjmhgaaDoor.P
open Go.RowKit Go.Proofs.YtginfaencjmhgaaDoorW.PrintWords Go.Proofs.YtginfaencjmhgaaDoorW.PrintLast Go.Proofs.YtginfaencjmhgaaDoorW.PrintMore Go.Proofs.YtginfaencjmhgaaDoor.Pl
attribute [local go_sem] min2_int min_two
set_option linter.unusedVariables false
set_option linter.unusedSimpArgs false
theorem Q_none {W : World} {base n c : Nat} {ok : Nat → Prop} {xs : List Int} {A : Option Addr} (h : kB.Q 5 W base ok (.slice A n c) xs) : A = none → c = 0 := by
  rintro rfl
  obtain ⟨_, inner, hown, _⟩ := h
  rcases hown.2 with ⟨_, A', he, _⟩ | ⟨g, off, cap, cur, he, _⟩
  · injection he
  · injection he with he
    cases he
theorem ixb_calls (w : World) (A : Option Addr) (n c : Nat) (xs : List Int) (hx : xs.length = n) (hC : kB.C w A n xs) (hnc : A = none → c = 0) :
    Calls Tryd.prog 20 #[.slice A n c, .int .u8 10] w fun e w' => e = .returned (.int .i64 (ixb xs)) ∧ w' = w := by
  cases A with
  | none =>
    have h0 : n = 0 := by
      rcases Nat.eq_zero_or_pos n with h | h
      · exact h
      · obtain ⟨ad, h, _⟩ := hC.2.2 h
        cases h
    subst h0
    obtain rfl : xs = [] := List.eq_nil_of_length_eq_zero hx
    rw [hnc rfl]
    exact Tryd.bytes_IndexByte_nil 10 w
  | some a =>
    refine Tryd.bytes_IndexByte_at a n c xs 10 w hx (fun i hi => ?_)
    obtain ⟨ad, e, hr⟩ := hC.2.2 (by omega)
    obtain rfl := Option.some.inj e
    have hi2 : i < xs.length := by omega
    obtain ⟨cs, h1, h2, h3⟩ := hr i xs[i] (List.getElem?_eq_getElem hi2)
    have h3' := h3 0 (.int .u8 xs[i]) (by rw [show cs = [Value.int .u8 xs[i]] from h2]; rfl)
    rw [List.getD_eq_getElem?_getD, List.getElem?_eq_getElem hi2]
    simpa [show kB.sz = 1 from rfl] using h3'
set_option maxHeartbeats 8000000 in
set_option maxRecDepth 100000 in
theorem CRd.clean (w0 w : World) (own : Nat → Prop) (g : Nat) (s : CS) (hI : CRd w0.heap.size w own g s) (hB : Below w0.heap.size w0 w) (hG : s.Gd) (hs : s.b.length ≤ 65536) :
    Calls Tryd.prog 19 #[.pointer (some ⟨g, 0, none⟩)] w fun e w' => e = .returned (.bool (cleanV s).2) ∧ CRd w0.heap.size w' own g (cleanV s).1 ∧ KeptC w w' own ∧ Below w0.heap.size w0 w' := by
  obtain ⟨b, sw, rs, wt⟩ := s
  have h0 : 0 ≤ sw := hG.sw
  have hsl : sw ≤ 2147483649 := hG.swl
  clear hG
  dsimp only at hs
  have HI := Aside0.mk hI
  have HI0 := Aside0.mk hI
  have HB := Aside0.mk hB
  clear hI hB
  obtain ⟨A, c0, wp, hb, hg, ho, hQ, hl, hW⟩ := HI.out; have HBK := Aside0.mk hb; have HC := Aside0.mk (Kd.Q_reads' hQ).2.2; have HN := Aside0.mk (Q_none hQ); obtain ⟨⟨hcz0, hcz1, hcz2, hcz3⟩, hfz0, hfz1, hfz2, hfz3⟩ := d4 HBK; clear hb hg ho hQ hl hW
  dsimp only at *
  by_cases h1 : (b.length : Int) < sw
  · have hx1 : ((b.length : Int) < sw) = True := eq_true h1
    have hw1 : wrap64 (sw - (b.length : Int)) = sw - (b.length : Int) := by unfold wrap64; omega
    have hd1 : decide (0 < sw - (b.length : Int)) = true := decide_eq_true (by omega)
    have hm : min sw (b.length : Int) = (b.length : Int) := by omega
    have hV : cleanV ⟨b, sw, rs, wt⟩ = (⟨b.drop b.length, sw - (b.length : Int), rs, wt⟩, false) := by
      unfold cleanV
      dsimp only
      rw [hm, if_pos (by omega), Int.toNat_natCast]
    rw [hV]
    clear h1 hm hV
    go_enter Tryd.func19, Tryd.ntmps19
    go_wp2
    go_quiet (fail)
    have hbq : Below w.heap.size w (w.drewN nq) := pw_below_drewN (Below.refl _ _) nq
    replace HI := Aside0.mk (HI.out.below hbq)
    replace HB := Aside0.mk (below_step HB.out hbq)
    have HK := Aside0.mk (KeptC.of_below own hbq)
    clear hbq HBK HC HN hcz0 hcz1 hcz2 hcz3 hfz0 hfz1 hfz2 hfz3
    generalize w.drewN nq = w2 at HI HB HK ⊢
    obtain ⟨A, c0, wp, hb, hg, ho, hQ, hl, hW⟩ := HI.out; have HBK := Aside0.mk hb; have HC := Aside0.mk (Kd.Q_reads' hQ).2.2; have HN := Aside0.mk (Q_none hQ); obtain ⟨⟨hcz0, hcz1, hcz2, hcz3⟩, hfz0, hfz1, hfz2, hfz3⟩ := d4 HBK; clear hb hg ho hQ hl hW
    dsimp only at *
    go_wp2_with (first | (go_at_call 21; ((with_reducible refine (CRd.take w0 _ own g ⟨b, sw, rs, wt⟩ b.length HI.out HB.out (Nat.le_refl _) hs).mono ?_); rintro e w1 ⟨rfl, hI, hk, hB⟩; dsimp only at hI; clear HBK HC HN hcz0 hcz1 hcz2 hcz3 hfz0 hfz1 hfz2 hfz3; replace HI := Aside0.mk hI; replace HB := Aside0.mk hB; replace HK := Aside0.mk (HK.out.then_ hk (fun _ h => .inl h)); clear hI hk hB; obtain ⟨A, c0, wp, hb, hg, ho, hQ, hl, hW⟩ := HI.out; have HBK := Aside0.mk hb; have HC := Aside0.mk (Kd.Q_reads' hQ).2.2; have HN := Aside0.mk (Q_none hQ); obtain ⟨⟨hcz0, hcz1, hcz2, hcz3⟩, hfz0, hfz1, hfz2, hfz3⟩ := d4 HBK; clear hb hg ho hQ hl hW)))
    go_ret
    exact ⟨rfl, HI.out.set1 _, HI0.out.keepG HK.out 1 _ rfl, below_set HB.out HI.out.base⟩
  · obtain ⟨n, rfl⟩ : ∃ n : Nat, sw = (n : Int) := ⟨sw.toNat, by omega⟩
    have hx1 : ((b.length : Int) < (n : Int)) = False := eq_false h1
    have hx2 : (b.length < n) = False := eq_false (by omega)
    have hm : min (n : Int) (b.length : Int) = (n : Int) := by omega
    have hle : n ≤ b.length := by omega
    have hw1 : wrap64 ((n : Int) - (n : Int)) = 0 := by rw [Int.sub_self]; unfold wrap64; omega
    have hw2 : (n : Int) - (n : Int) = 0 := Int.sub_self _
    have hdl : (b.drop n).length ≤ 65536 := by rw [List.length_drop]; omega
    clear h1 h0 hsl
    cases rs with
    | false =>
      have hV : cleanV ⟨b, (n : Int), false, wt⟩ = (⟨b.drop n, 0, false, wt⟩, true) := by
        unfold cleanV
        dsimp only
        rw [hm, hw2, if_neg (by decide), if_neg (by decide), Int.toNat_natCast]
      rw [hV]
      clear hm hV hw2
      go_enter Tryd.func19, Tryd.ntmps19
      go_wp2
      go_quiet (fail)
      have hbq : Below w.heap.size w (w.drewN nq) := pw_below_drewN (Below.refl _ _) nq
      replace HI := Aside0.mk (HI.out.below hbq)
      replace HB := Aside0.mk (below_step HB.out hbq)
      have HK := Aside0.mk (KeptC.of_below own hbq)
      clear hbq HBK HC HN hcz0 hcz1 hcz2 hcz3 hfz0 hfz1 hfz2 hfz3
      generalize w.drewN nq = w2 at HI HB HK ⊢
      obtain ⟨A, c0, wp, hb, hg, ho, hQ, hl, hW⟩ := HI.out; have HBK := Aside0.mk hb; have HC := Aside0.mk (Kd.Q_reads' hQ).2.2; have HN := Aside0.mk (Q_none hQ); obtain ⟨⟨hcz0, hcz1, hcz2, hcz3⟩, hfz0, hfz1, hfz2, hfz3⟩ := d4 HBK; clear hb hg ho hQ hl hW
      dsimp only at *
      go_wp2_with (first | (go_at_call 21; ((with_reducible refine (CRd.take w0 _ own g ⟨b, (n : Int), false, wt⟩ n HI.out HB.out hle hs).mono ?_); rintro e w1 ⟨rfl, hI, hk, hB⟩; dsimp only at hI; clear HBK HC HN hcz0 hcz1 hcz2 hcz3 hfz0 hfz1 hfz2 hfz3; replace HI := Aside0.mk hI; replace HB := Aside0.mk hB; replace HK := Aside0.mk (HK.out.then_ hk (fun _ h => .inl h)); clear hI hk hB; obtain ⟨A, c0, wp, hb, hg, ho, hQ, hl, hW⟩ := HI.out; have HBK := Aside0.mk hb; have HC := Aside0.mk (Kd.Q_reads' hQ).2.2; have HN := Aside0.mk (Q_none hQ); obtain ⟨⟨hcz0, hcz1, hcz2, hcz3⟩, hfz0, hfz1, hfz2, hfz3⟩ := d4 HBK; clear hb hg ho hQ hl hW)))
      go_ret
      exact ⟨rfl, HI.out.set1 0, HI0.out.keepG HK.out 1 _ rfl, below_set HB.out HI.out.base⟩
    | true =>
      by_cases hi : ixb (b.drop n) < 0
      · have hV : cleanV ⟨b, (n : Int), true, wt⟩ = (⟨[], 0, true, wt⟩, false) := by
          unfold cleanV
          dsimp only
          rw [hm, hw2, if_neg (by decide), if_pos rfl, Int.toNat_natCast, if_pos hi]
        rw [hV]
        have hd2 : decide (ixb (b.drop n) < 0) = true := decide_eq_true hi
        have hn0 : (b.drop n).drop (b.length - n) = [] := List.drop_eq_nil_of_le (Nat.le_of_eq List.length_drop)
        clear hm hV hw2 hi
        go_enter Tryd.func19, Tryd.ntmps19
        go_wp2
        go_quiet (fail)
        have hbq : Below w.heap.size w (w.drewN nq) := pw_below_drewN (Below.refl _ _) nq
        replace HI := Aside0.mk (HI.out.below hbq)
        replace HB := Aside0.mk (below_step HB.out hbq)
        have HK := Aside0.mk (KeptC.of_below own hbq)
        clear hbq HBK HC HN hcz0 hcz1 hcz2 hcz3 hfz0 hfz1 hfz2 hfz3
        generalize w.drewN nq = w2 at HI HB HK ⊢
        obtain ⟨A, c0, wp, hb, hg, ho, hQ, hl, hW⟩ := HI.out; have HBK := Aside0.mk hb; have HC := Aside0.mk (Kd.Q_reads' hQ).2.2; have HN := Aside0.mk (Q_none hQ); obtain ⟨⟨hcz0, hcz1, hcz2, hcz3⟩, hfz0, hfz1, hfz2, hfz3⟩ := d4 HBK; clear hb hg ho hQ hl hW
        dsimp only at *
        go_wp2_with (first | (go_at_call 21; ((with_reducible refine (CRd.take w0 _ own g ⟨b, (n : Int), true, wt⟩ n HI.out HB.out hle hs).mono ?_); rintro e w1 ⟨rfl, hI, hk, hB⟩; dsimp only at hI; clear HBK HC HN hcz0 hcz1 hcz2 hcz3 hfz0 hfz1 hfz2 hfz3; replace HI := Aside0.mk hI; replace HB := Aside0.mk hB; replace HK := Aside0.mk (HK.out.then_ hk (fun _ h => .inl h)); clear hI hk hB; obtain ⟨A, c0, wp, hb, hg, ho, hQ, hl, hW⟩ := HI.out; have HBK := Aside0.mk hb; have HC := Aside0.mk (Kd.Q_reads' hQ).2.2; have HN := Aside0.mk (Q_none hQ); obtain ⟨⟨hcz0, hcz1, hcz2, hcz3⟩, hfz0, hfz1, hfz2, hfz3⟩ := d4 HBK; clear hb hg ho hQ hl hW)) | ((with_reducible refine gate_dst (N := 27) rfl ?_); have hgd_ := hw1; obtain ⟨w3, hw3⟩ : ∃ w_, w_ = (w1.setCell ⟨g, 1, none⟩ (.int .i64 0)) := ⟨_, rfl⟩; have hk_ := HI0.out.keepG HK.out 1 (.int .i64 0) hw3; have hg_ := HI.out.base; replace HI := Aside0.mk (show CRd w0.heap.size w3 own g ⟨b.drop n, 0, true, wt⟩ by rw [hw3]; exact HI.out.set1 0); replace HB := Aside0.mk (show Below w0.heap.size w0 w3 by rw [hw3]; exact below_set HB.out hg_); replace HK := Aside0.mk hk_; rw [← hw3]; clear hw3 hk_ hg_ hgd_ hw1 HBK HC HN hcz0 hcz1 hcz2 hcz3 hfz0 hfz1 hfz2 hfz3; obtain ⟨A, c0, wp, hb, hg, ho, hQ, hl, hW⟩ := HI.out; have HBK := Aside0.mk hb; have HC := Aside0.mk (Kd.Q_reads' hQ).2.2; have HN := Aside0.mk (Q_none hQ); obtain ⟨⟨hcz0, hcz1, hcz2, hcz3⟩, hfz0, hfz1, hfz2, hfz3⟩ := d4 HBK; clear hb hg ho hQ hl hW) | (go_at_call 20; ((with_reducible refine (ixb_calls _ A (b.length - n) c0 (b.drop n) List.length_drop (by have hq_ := HC.out; rwa [show (CS.mk (b.drop n) 0 true wt).b.length = b.length - n from List.length_drop] at hq_) HN.out).mono ?_); rintro e w_ ⟨rfl, rfl⟩)) | (go_at_call 21; ((with_reducible refine (CRd.take w0 _ own g ⟨b.drop n, 0, true, wt⟩ (b.length - n) HI.out HB.out (Nat.le_of_eq List.length_drop.symm) hdl).mono ?_); rintro e w4 ⟨rfl, hI, hk, hB⟩; dsimp only at hI; clear HBK HC HN hcz0 hcz1 hcz2 hcz3 hfz0 hfz1 hfz2 hfz3; replace HI := Aside0.mk hI; replace HB := Aside0.mk hB; replace HK := Aside0.mk (HK.out.then_ hk (fun _ h => .inl h)); clear hI hk hB; obtain ⟨A, c0, wp, hb, hg, ho, hQ, hl, hW⟩ := HI.out; have HBK := Aside0.mk hb; have HC := Aside0.mk (Kd.Q_reads' hQ).2.2; have HN := Aside0.mk (Q_none hQ); obtain ⟨⟨hcz0, hcz1, hcz2, hcz3⟩, hfz0, hfz1, hfz2, hfz3⟩ := d4 HBK; clear hb hg ho hQ hl hW)))
        go_ret
        rw [hn0] at HI
        exact ⟨rfl, HI.out, HK.out, HB.out⟩
      · have hlt := ixb_lt (b.drop n)
        obtain ⟨i, hie⟩ : ∃ i : Nat, ixb (b.drop n) = (i : Int) := ⟨(ixb (b.drop n)).toNat, by omega⟩
        have hV : cleanV ⟨b, (n : Int), true, wt⟩ = (⟨(b.drop n).drop (i + 1), 0, false, wt⟩, true) := by
          unfold cleanV
          dsimp only
          rw [hm, hw2, if_neg (by decide), if_pos rfl, Int.toNat_natCast, if_neg hi, hie]
          rfl
        rw [hV]
        have hd2 : decide ((i : Int) < 0) = false := decide_eq_false (by omega)
        have hw3 : wrap64 ((i : Int) + 1) = ((i + 1 : Nat) : Int) := by unfold wrap64; omega
        have hle2 : i + 1 ≤ (b.drop n).length := by omega
        clear hm hV hw2 hi hlt
        go_enter Tryd.func19, Tryd.ntmps19
        go_wp2
        go_quiet (fail)
        have hbq : Below w.heap.size w (w.drewN nq) := pw_below_drewN (Below.refl _ _) nq
        replace HI := Aside0.mk (HI.out.below hbq)
        replace HB := Aside0.mk (below_step HB.out hbq)
        have HK := Aside0.mk (KeptC.of_below own hbq)
        clear hbq HBK HC HN hcz0 hcz1 hcz2 hcz3 hfz0 hfz1 hfz2 hfz3
        generalize w.drewN nq = w2 at HI HB HK ⊢
        obtain ⟨A, c0, wp, hb, hg, ho, hQ, hl, hW⟩ := HI.out; have HBK := Aside0.mk hb; have HC := Aside0.mk (Kd.Q_reads' hQ).2.2; have HN := Aside0.mk (Q_none hQ); obtain ⟨⟨hcz0, hcz1, hcz2, hcz3⟩, hfz0, hfz1, hfz2, hfz3⟩ := d4 HBK; clear hb hg ho hQ hl hW
        dsimp only at *
        go_wp2_with (first | (go_at_call 21; ((with_reducible refine (CRd.take w0 _ own g ⟨b, (n : Int), true, wt⟩ n HI.out HB.out hle hs).mono ?_); rintro e w1 ⟨rfl, hI, hk, hB⟩; dsimp only at hI; clear HBK HC HN hcz0 hcz1 hcz2 hcz3 hfz0 hfz1 hfz2 hfz3; replace HI := Aside0.mk hI; replace HB := Aside0.mk hB; replace HK := Aside0.mk (HK.out.then_ hk (fun _ h => .inl h)); clear hI hk hB; obtain ⟨A, c0, wp, hb, hg, ho, hQ, hl, hW⟩ := HI.out; have HBK := Aside0.mk hb; have HC := Aside0.mk (Kd.Q_reads' hQ).2.2; have HN := Aside0.mk (Q_none hQ); obtain ⟨⟨hcz0, hcz1, hcz2, hcz3⟩, hfz0, hfz1, hfz2, hfz3⟩ := d4 HBK; clear hb hg ho hQ hl hW)) | ((with_reducible refine gate_dst (N := 27) rfl ?_); have hgd_ := hw1; obtain ⟨w3, hw3⟩ : ∃ w_, w_ = (w1.setCell ⟨g, 1, none⟩ (.int .i64 0)) := ⟨_, rfl⟩; have hk_ := HI0.out.keepG HK.out 1 (.int .i64 0) hw3; have hg_ := HI.out.base; replace HI := Aside0.mk (show CRd w0.heap.size w3 own g ⟨b.drop n, 0, true, wt⟩ by rw [hw3]; exact HI.out.set1 0); replace HB := Aside0.mk (show Below w0.heap.size w0 w3 by rw [hw3]; exact below_set HB.out hg_); replace HK := Aside0.mk hk_; rw [← hw3]; clear hw3 hk_ hg_ hgd_ hw1 HBK HC HN hcz0 hcz1 hcz2 hcz3 hfz0 hfz1 hfz2 hfz3; obtain ⟨A, c0, wp, hb, hg, ho, hQ, hl, hW⟩ := HI.out; have HBK := Aside0.mk hb; have HC := Aside0.mk (Kd.Q_reads' hQ).2.2; have HN := Aside0.mk (Q_none hQ); obtain ⟨⟨hcz0, hcz1, hcz2, hcz3⟩, hfz0, hfz1, hfz2, hfz3⟩ := d4 HBK; clear hb hg ho hQ hl hW) | (go_at_call 20; ((with_reducible refine (ixb_calls _ A (b.length - n) c0 (b.drop n) List.length_drop (by have hq_ := HC.out; rwa [show (CS.mk (b.drop n) 0 true wt).b.length = b.length - n from List.length_drop] at hq_) HN.out).mono ?_); rintro e w_ ⟨rfl, rfl⟩; rw [hie])) | (go_at_call 21; (rw [show ((i : Int) + 1) = ((i + 1 : Nat) : Int) by omega]; (with_reducible refine (CRd.take w0 _ own g ⟨b.drop n, 0, true, wt⟩ (i + 1) HI.out HB.out hle2 hdl).mono ?_); rintro e w4 ⟨rfl, hI, hk, hB⟩; dsimp only at hI; clear HBK HC HN hcz0 hcz1 hcz2 hcz3 hfz0 hfz1 hfz2 hfz3; replace HI := Aside0.mk hI; replace HB := Aside0.mk hB; replace HK := Aside0.mk (HK.out.then_ hk (fun _ h => .inl h)); clear hI hk hB; obtain ⟨A, c0, wp, hb, hg, ho, hQ, hl, hW⟩ := HI.out; have HBK := Aside0.mk hb; have HC := Aside0.mk (Kd.Q_reads' hQ).2.2; have HN := Aside0.mk (Q_none hQ); obtain ⟨⟨hcz0, hcz1, hcz2, hcz3⟩, hfz0, hfz1, hfz2, hfz3⟩ := d4 HBK; clear hb hg ho hQ hl hW)))
        go_ret
        exact ⟨rfl, HI.out.set2 false, HI0.out.keepG HK.out 2 _ rfl, below_set HB.out HI.out.base⟩
end Go.Proofs.YtginfaencjmhgaaDoor.P
