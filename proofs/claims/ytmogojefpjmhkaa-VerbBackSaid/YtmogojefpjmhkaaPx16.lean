/- Lean functions for the Go functions that the laws of this seat use, and the proofs that the Go code computes them; conditions: the readings that each theorem names. Written by a program. -/
import Derived.Test.YtmogojefpjmhkaaPx0
import Derived.Test.YtmogojefpjmhkaaPx3
import Derived.Test.YtmogojefpjmhkaaPx5
import Derived.Test.YtmogojefpjmhkaaPx15
namespace Go.Proofs.Ytmogojefpjmhkaa.P
open Go.RowKit Go.Proofs.YtmogojefpjmhkaaW.PrintWords Go.Proofs.YtmogojefpjmhkaaW.PrintLast Go.Proofs.YtmogojefpjmhkaaW.PrintMore
attribute [local go_sem] max2_int min2_int max_two min_two max_three min_three max_four min_four   -- for this text's walks alone
set_option linter.unusedVariables false
set_option linter.unusedSimpArgs false

/-! ### tallboylaw15_VerbBack: function 5 -/
def tallboylaw15_VerbBack.j0 : Nat → ByteArray → Bool → Option (Bool)
 | 0, _, _ => none
 | k + 1, x1, x37 => if x37 = true then (some false) else ((verb_Kind.f x1).bind fun t211 => (if t211 = 0 then (some true) else ((verb_Name.f t211).bind fun t212 => (some (t212.toList == x1.toList)))))
def tallboylaw15_VerbBack.f (k : Nat) (a0 : Int) (a1 : ByteArray) (a2 : Int) : Option (Bool) := (tallboylaw15_works.f k).bind fun t206 => (if t206 = true then ((verb_Name.f (wrap64 (1 + (wrap64 (Int.tmod (IntKind.u64.wrap (a0)) 15))))).bind fun t207 => ((verb_Kind.f t207).bind fun t208 => (if t208 = (wrap64 (1 + (wrap64 (Int.tmod (IntKind.u64.wrap (a0)) 15)))) then ((verb_Name.f (wrap64 (1 + (wrap64 (Int.tmod (IntKind.u64.wrap (a0)) 15))))).bind fun t209 => ((verb_Name.f (wrap64 (1 + (wrap64 (Int.tmod (IntKind.u64.wrap (a2)) 15))))).bind fun t210 => (tallboylaw15_VerbBack.j0 k a1 ((t209.toList == t210.toList) != ((wrap64 (1 + (wrap64 (Int.tmod (IntKind.u64.wrap (a0)) 15)))) == (wrap64 (1 + (wrap64 (Int.tmod (IntKind.u64.wrap (a2)) 15))))))))) else (tallboylaw15_VerbBack.j0 k a1 true)))) else (some false))
theorem tallboylaw15_VerbBack.mono_l : ∀ k, (∀ y0 y1, LeO (tallboylaw15_VerbBack.j0 k y0 y1) (tallboylaw15_VerbBack.j0 (k + 1) y0 y1))
 | 0 => fun _ _ r h => by simp [tallboylaw15_VerbBack.j0] at h
 | k + 1 => by
  have ih0 := tallboylaw15_VerbBack.mono_l k
  ·intro y0 y1
   unfold tallboylaw15_VerbBack.j0
   repeat' first
   | (with_reducible exact ih0 _ _)
   | (with_reducible exact tallboylaw15_works.mono _)
   | (with_reducible exact LeO.refl _)
   | (with_reducible exact LeO.none _)
   | (with_reducible refine LeO.ite ?_ ?_)
   | (with_reducible refine LeO.bind ?_ (fun _ => ?_))
   | exact ih0 _ _
   | exact tallboylaw15_works.mono _
   | exact LeO.none _
   | refine LeO.ite ?_ ?_
   | refine LeO.bind ?_ (fun _ => ?_)
theorem tallboylaw15_VerbBack.mono : ∀ a0 a1 a2 k, LeO (tallboylaw15_VerbBack.f k a0 a1 a2) (tallboylaw15_VerbBack.f (k + 1) a0 a1 a2) := by
 intro a0 a1 a2 k
 have ih0 := tallboylaw15_VerbBack.mono_l k
 unfold tallboylaw15_VerbBack.f
 repeat' first
   | (with_reducible exact ih0 _ _)
   | (with_reducible exact tallboylaw15_works.mono _)
   | (with_reducible exact LeO.refl _)
   | (with_reducible exact LeO.none _)
   | (with_reducible refine LeO.ite ?_ ?_)
   | (with_reducible refine LeO.bind ?_ (fun _ => ?_))
   | exact ih0 _ _
   | exact tallboylaw15_works.mono _
   | exact LeO.none _
   | refine LeO.ite ?_ ?_
   | refine LeO.bind ?_ (fun _ => ?_)
set_option maxHeartbeats 8000000 in
set_option maxRecDepth 100000 in
theorem tallboylaw15_VerbBack.calls (k : Nat) (a0 : Int) (a1 : ByteArray) (a2 : Int) (r : Bool) (w : World) (h : tallboylaw15_VerbBack.f k a0 a1 a2 = some r) :
  Calls Try.prog 5 #[.int .i64 a0, .string a1, .int .i64 a2] w fun e w' => e = .returned (.bool r) ∧ Below w.heap.size w w' := by
 have HB := Aside0.mk (Below.refl w.heap.size w)
 have H : ((tallboylaw15_works.f k).bind fun t206 => (if t206 = true then ((verb_Name.f (wrap64 (1 + (wrap64 (Int.tmod (IntKind.u64.wrap (a0)) 15))))).bind fun t207 => ((verb_Kind.f t207).bind fun t208 => (if t208 = (wrap64 (1 + (wrap64 (Int.tmod (IntKind.u64.wrap (a0)) 15)))) then ((verb_Name.f (wrap64 (1 + (wrap64 (Int.tmod (IntKind.u64.wrap (a0)) 15))))).bind fun t209 => ((verb_Name.f (wrap64 (1 + (wrap64 (Int.tmod (IntKind.u64.wrap (a2)) 15))))).bind fun t210 => (tallboylaw15_VerbBack.j0 k a1 ((t209.toList == t210.toList) != ((wrap64 (1 + (wrap64 (Int.tmod (IntKind.u64.wrap (a0)) 15)))) == (wrap64 (1 + (wrap64 (Int.tmod (IntKind.u64.wrap (a2)) 15))))))))) else (tallboylaw15_VerbBack.j0 k a1 true)))) else (some false))) = some r := h
 clear h
 replace H := Option.bind_eq_some_iff.mp H
 obtain ⟨t206, A40, H⟩ := H
 replace H : (if t206 = true then ((verb_Name.f (wrap64 (1 + (wrap64 (Int.tmod (IntKind.u64.wrap (a0)) 15))))).bind fun t207 => ((verb_Kind.f t207).bind fun t208 => (if t208 = (wrap64 (1 + (wrap64 (Int.tmod (IntKind.u64.wrap (a0)) 15)))) then ((verb_Name.f (wrap64 (1 + (wrap64 (Int.tmod (IntKind.u64.wrap (a0)) 15))))).bind fun t209 => ((verb_Name.f (wrap64 (1 + (wrap64 (Int.tmod (IntKind.u64.wrap (a2)) 15))))).bind fun t210 => (tallboylaw15_VerbBack.j0 k a1 ((t209.toList == t210.toList) != ((wrap64 (1 + (wrap64 (Int.tmod (IntKind.u64.wrap (a0)) 15)))) == (wrap64 (1 + (wrap64 (Int.tmod (IntKind.u64.wrap (a2)) 15))))))))) else (tallboylaw15_VerbBack.j0 k a1 true)))) else (some false)) = some r := H
 have A4 := Aside0.mk A40
 clear A40
 by_cases c5 : t206 = true
 ·subst c5
  have H1 : ((verb_Name.f (wrap64 (1 + (wrap64 (Int.tmod (IntKind.u64.wrap (a0)) 15))))).bind fun t207 => ((verb_Kind.f t207).bind fun t208 => (if t208 = (wrap64 (1 + (wrap64 (Int.tmod (IntKind.u64.wrap (a0)) 15)))) then ((verb_Name.f (wrap64 (1 + (wrap64 (Int.tmod (IntKind.u64.wrap (a0)) 15))))).bind fun t209 => ((verb_Name.f (wrap64 (1 + (wrap64 (Int.tmod (IntKind.u64.wrap (a2)) 15))))).bind fun t210 => (tallboylaw15_VerbBack.j0 k a1 ((t209.toList == t210.toList) != ((wrap64 (1 + (wrap64 (Int.tmod (IntKind.u64.wrap (a0)) 15)))) == (wrap64 (1 + (wrap64 (Int.tmod (IntKind.u64.wrap (a2)) 15))))))))) else (tallboylaw15_VerbBack.j0 k a1 true)))) = some r := by rw [if_pos rfl] at H; exact H
  clear H
  have H := H1
  clear H1
  have HC6 := Aside0.mk H
  clear H
  go_enter Try.func5, Try.ntmps5
  go_upto_region 4 with (first | ((with_reducible refine gate_callee (f := 23) rfl ?_); refine goesL_ (some 10) rfl rfl Try.func23 (by kernel_rfl) rfl #[] rfl (by (try simp only [List.map_toArray, List.map_cons, List.map_nil]); first | done | rfl | (simp only [List.length_drop, List.length_take]; rfl)) ?_; (with_reducible refine (tallboylaw15_works.calls k  true _ A4.out).mono ?_); rintro e w7 ⟨rfl, hb⟩; refine ⟨_, rfl, ?_⟩; have n0_ := Aside0.mk (below_step (by repeat (first | (with_reducible first | exact HB.out | apply below_alloc | apply pw_below_drewN | apply below_drew1) | exact HB.out)) hb); clear HB; have HB := n0_; clear n0_; (try clear hb); (try clear hb2); (try clear hk); (try clear hi)))
  (try simp only [Act.put, List.setIfInBounds_toArray, List.set_cons_zero, List.set_cons_succ])
  go_cut [37] (fun v37 wc => ∃ (kq : Nat) (x37_5 : Bool), v37 = .bool x37_5 ∧ Aside0 (tallboylaw15_VerbBack.j0 kq a1 x37_5 = some r) ∧ Aside0 (kq ≤ k) ∧ Aside0 (Below w.heap.size w wc))
  case first =>
   have H := HC6.out
   clear HC6
   replace H := Option.bind_eq_some_iff.mp H
   obtain ⟨t207, A80, H⟩ := H
   replace H : ((verb_Kind.f t207).bind fun t208 => (if t208 = (wrap64 (1 + (wrap64 (Int.tmod (IntKind.u64.wrap (a0)) 15)))) then ((verb_Name.f (wrap64 (1 + (wrap64 (Int.tmod (IntKind.u64.wrap (a0)) 15))))).bind fun t209 => ((verb_Name.f (wrap64 (1 + (wrap64 (Int.tmod (IntKind.u64.wrap (a2)) 15))))).bind fun t210 => (tallboylaw15_VerbBack.j0 k a1 ((t209.toList == t210.toList) != ((wrap64 (1 + (wrap64 (Int.tmod (IntKind.u64.wrap (a0)) 15)))) == (wrap64 (1 + (wrap64 (Int.tmod (IntKind.u64.wrap (a2)) 15))))))))) else (tallboylaw15_VerbBack.j0 k a1 true))) = some r := H
   have A8 := Aside0.mk A80
   clear A80
   replace H := Option.bind_eq_some_iff.mp H
   obtain ⟨t208, A90, H⟩ := H
   replace H : (if t208 = (wrap64 (1 + (wrap64 (Int.tmod (IntKind.u64.wrap (a0)) 15)))) then ((verb_Name.f (wrap64 (1 + (wrap64 (Int.tmod (IntKind.u64.wrap (a0)) 15))))).bind fun t209 => ((verb_Name.f (wrap64 (1 + (wrap64 (Int.tmod (IntKind.u64.wrap (a2)) 15))))).bind fun t210 => (tallboylaw15_VerbBack.j0 k a1 ((t209.toList == t210.toList) != ((wrap64 (1 + (wrap64 (Int.tmod (IntKind.u64.wrap (a0)) 15)))) == (wrap64 (1 + (wrap64 (Int.tmod (IntKind.u64.wrap (a2)) 15))))))))) else (tallboylaw15_VerbBack.j0 k a1 true)) = some r := H
   have A9 := Aside0.mk A90
   clear A90
   by_cases c10 : t208 = (wrap64 (1 + (wrap64 (Int.tmod (IntKind.u64.wrap (a0)) 15))))
   ·rw [if_pos c10] at H
    have c10b0 : (t208 == (wrap64 (1 + (wrap64 (Int.tmod (IntKind.u64.wrap (a0)) 15))))) = true := beq_iff_eq.mpr c10
    have c10b1 : (t208 != (wrap64 (1 + (wrap64 (Int.tmod (IntKind.u64.wrap (a0)) 15))))) = false := bne_eq_false_iff_eq.mpr c10
    clear c10
    (first | rw [c10b0] | (simp only [i64_w, i32_w]; rw [c10b0]) | skip)
    replace H := Option.bind_eq_some_iff.mp H
    obtain ⟨t209, A110, H⟩ := H
    replace H : ((verb_Name.f (wrap64 (1 + (wrap64 (Int.tmod (IntKind.u64.wrap (a2)) 15))))).bind fun t210 => (tallboylaw15_VerbBack.j0 k a1 ((t209.toList == t210.toList) != ((wrap64 (1 + (wrap64 (Int.tmod (IntKind.u64.wrap (a0)) 15)))) == (wrap64 (1 + (wrap64 (Int.tmod (IntKind.u64.wrap (a2)) 15)))))))) = some r := H
    have A11 := Aside0.mk A110
    clear A110
    replace H := Option.bind_eq_some_iff.mp H
    obtain ⟨t210, A120, H⟩ := H
    replace H : (tallboylaw15_VerbBack.j0 k a1 ((t209.toList == t210.toList) != ((wrap64 (1 + (wrap64 (Int.tmod (IntKind.u64.wrap (a0)) 15)))) == (wrap64 (1 + (wrap64 (Int.tmod (IntKind.u64.wrap (a2)) 15))))))) = some r := H
    have A12 := Aside0.mk A120
    clear A120
    have H' := Aside0.mk H
    clear H
    go_wp2_with (first | ((with_reducible refine gate_callee (f := 8) rfl ?_); refine goesL_ (some 23) rfl rfl Try.func8 (by kernel_rfl) rfl #[.int .i64 (wrap64 (1 + (wrap64 (Int.tmod (IntKind.u64.wrap (a0)) 15))))] rfl (by (try simp only [List.map_toArray, List.map_cons, List.map_nil]); first | done | rfl | (simp only [List.length_drop, List.length_take]; rfl)) ?_; (with_reducible refine (verb_Name.calls (wrap64 (1 + (wrap64 (Int.tmod (IntKind.u64.wrap (a0)) 15)))) t207 _ A8.out).mono ?_); rintro e w13 ⟨rfl, hb⟩; refine ⟨_, rfl, ?_⟩; have n0_ := Aside0.mk (below_step (by repeat (first | (with_reducible first | exact HB.out | apply below_alloc | apply pw_below_drewN | apply below_drew1) | exact HB.out)) hb); clear HB; have HB := n0_; clear n0_; (try clear hb); (try clear hb2); (try clear hk); (try clear hi)) | ((with_reducible refine gate_callee (f := 10) rfl ?_); refine goesL_ (some 24) rfl rfl Try.func10 (by kernel_rfl) rfl #[.string t207] rfl (by (try simp only [List.map_toArray, List.map_cons, List.map_nil]); first | done | rfl | (simp only [List.length_drop, List.length_take]; rfl)) ?_; (with_reducible refine (verb_Kind.calls t207 t208 _ A9.out).mono ?_); rintro e w14 ⟨rfl, hb⟩; refine ⟨_, rfl, ?_⟩; have n0_ := Aside0.mk (below_step (by repeat (first | (with_reducible first | exact HB.out | apply below_alloc | apply pw_below_drewN | apply below_drew1) | exact HB.out)) hb); clear HB; have HB := n0_; clear n0_; (try clear hb); (try clear hb2); (try clear hk); (try clear hi)) | (go_at_call 8; (with_reducible refine (verb_Name.calls (wrap64 (1 + (wrap64 (Int.tmod (IntKind.u64.wrap (a0)) 15)))) t209 _ A11.out).mono ?_); rintro e w15 ⟨rfl, hb⟩; have n0_ := Aside0.mk (below_step (by repeat (first | (with_reducible first | exact HB.out | apply below_alloc | apply pw_below_drewN | apply below_drew1) | exact HB.out)) hb); clear HB; have HB := n0_; clear n0_; (try clear hb); (try clear hb2); (try clear hk); (try clear hi)) | (go_at_call 8; (with_reducible refine (verb_Name.calls (wrap64 (1 + (wrap64 (Int.tmod (IntKind.u64.wrap (a2)) 15)))) t210 _ A12.out).mono ?_); rintro e w16 ⟨rfl, hb⟩; have n0_ := Aside0.mk (below_step (by repeat (first | (with_reducible first | exact HB.out | apply below_alloc | apply pw_below_drewN | apply below_drew1) | exact HB.out)) hb); clear HB; have HB := n0_; clear n0_; (try clear hb); (try clear hb2); (try clear hk); (try clear hi)))
    go_meet
    case rel => exact ⟨_, (((t209.toList == t210.toList) != ((wrap64 (1 + (wrap64 (Int.tmod (IntKind.u64.wrap (a0)) 15)))) == (wrap64 (1 + (wrap64 (Int.tmod (IntKind.u64.wrap (a2)) 15))))))), (by first | rfl | (simp; done) | (simp [*]; done)), H', ⟨by first | omega | exact Nat.le_refl _⟩, ⟨by repeat (first | (with_reducible first | exact HB.out | apply below_alloc | apply pw_below_drewN | apply below_drew1) | exact HB.out)⟩⟩
   ·rw [if_neg c10] at H
    have c10b0 : (t208 == (wrap64 (1 + (wrap64 (Int.tmod (IntKind.u64.wrap (a0)) 15))))) = false := beq_eq_false_iff_ne.mpr c10
    have c10b1 : (t208 != (wrap64 (1 + (wrap64 (Int.tmod (IntKind.u64.wrap (a0)) 15))))) = true := bne_iff_ne.mpr c10
    (first | rw [c10b0] | (simp only [i64_w, i32_w]; rw [c10b0]) | skip)
    have H' := Aside0.mk H
    clear H
    go_wp2_with (first | ((with_reducible refine gate_callee (f := 8) rfl ?_); refine goesL_ (some 23) rfl rfl Try.func8 (by kernel_rfl) rfl #[.int .i64 (wrap64 (1 + (wrap64 (Int.tmod (IntKind.u64.wrap (a0)) 15))))] rfl (by (try simp only [List.map_toArray, List.map_cons, List.map_nil]); first | done | rfl | (simp only [List.length_drop, List.length_take]; rfl)) ?_; (with_reducible refine (verb_Name.calls (wrap64 (1 + (wrap64 (Int.tmod (IntKind.u64.wrap (a0)) 15)))) t207 _ A8.out).mono ?_); rintro e w17 ⟨rfl, hb⟩; refine ⟨_, rfl, ?_⟩; have n0_ := Aside0.mk (below_step (by repeat (first | (with_reducible first | exact HB.out | apply below_alloc | apply pw_below_drewN | apply below_drew1) | exact HB.out)) hb); clear HB; have HB := n0_; clear n0_; (try clear hb); (try clear hb2); (try clear hk); (try clear hi)) | ((with_reducible refine gate_callee (f := 10) rfl ?_); refine goesL_ (some 24) rfl rfl Try.func10 (by kernel_rfl) rfl #[.string t207] rfl (by (try simp only [List.map_toArray, List.map_cons, List.map_nil]); first | done | rfl | (simp only [List.length_drop, List.length_take]; rfl)) ?_; (with_reducible refine (verb_Kind.calls t207 t208 _ A9.out).mono ?_); rintro e w18 ⟨rfl, hb⟩; refine ⟨_, rfl, ?_⟩; have n0_ := Aside0.mk (below_step (by repeat (first | (with_reducible first | exact HB.out | apply below_alloc | apply pw_below_drewN | apply below_drew1) | exact HB.out)) hb); clear HB; have HB := n0_; clear n0_; (try clear hb); (try clear hb2); (try clear hk); (try clear hi)))
    go_meet
    case rel => exact ⟨_, (true), (by first | rfl | (simp; done) | (simp [*]; done)), H', ⟨by first | omega | exact Nat.le_refl _⟩, ⟨by repeat (first | (with_reducible first | exact HB.out | apply below_alloc | apply pw_below_drewN | apply below_drew1) | exact HB.out)⟩⟩
  case rest =>
   clear HC6
   try clear c1
   try clear c2
   try clear p2
   try clear c5
   try clear p6
   try clear c8
   try clear c10
   try clear c10b0
   try clear c10b1
   obtain ⟨kq, x37_5, rfl, HA, HJ5, HB⟩ := hcut
   cases kq with
   | zero => exact absurd HA.out (by simp [tallboylaw15_VerbBack.j0])
   | succ kj5 =>
    have H := HA.out
    clear HA
    simp only [tallboylaw15_VerbBack.j0] at H
    by_cases c19 : x37_5 = true
    ·subst c19
     have H1 : (some false) = some r := by rw [if_pos rfl] at H; exact H
     clear H
     have H := H1
     clear H1
     obtain rfl := Option.some.inj H
     go_wp2
     go_ret
     exact ⟨by first | rfl | (simp [errW_none, errW_some] <;> rfl) | (simp [*, errW_none, errW_some] <;> rfl), by repeat (first | (with_reducible first | exact HB.out | apply below_alloc | apply pw_below_drewN | apply below_drew1) | exact HB.out)⟩
    ·replace c19 := Bool.eq_false_iff.mpr c19
     subst c19
     have H1 : ((verb_Kind.f a1).bind fun t211 => (if t211 = 0 then (some true) else ((verb_Name.f t211).bind fun t212 => (some (t212.toList == a1.toList))))) = some r := by rw [if_neg (show ¬ (false = true) by decide)] at H; exact H
     clear H
     have H := H1
     clear H1
     replace H := Option.bind_eq_some_iff.mp H
     obtain ⟨t211, A200, H⟩ := H
     replace H : (if t211 = 0 then (some true) else ((verb_Name.f t211).bind fun t212 => (some (t212.toList == a1.toList)))) = some r := H
     have A20 := Aside0.mk A200
     clear A200
     by_cases c21 : t211 = 0
     ·rw [if_pos c21] at H
      have c21b0 : (t211 == 0) = true := beq_iff_eq.mpr c21
      have c21b1 : (t211 != 0) = false := bne_eq_false_iff_eq.mpr c21
      clear c21
      obtain rfl := Option.some.inj H
      go_wp2_with (first | ((with_reducible refine gate_callee (f := 10) rfl ?_); refine goesL_ (some 39) rfl rfl Try.func10 (by kernel_rfl) rfl #[.string a1] rfl (by (try simp only [List.map_toArray, List.map_cons, List.map_nil]); first | done | rfl | (simp only [List.length_drop, List.length_take]; rfl)) ?_; (with_reducible refine (verb_Kind.calls a1 t211 _ A20.out).mono ?_); rintro e w22 ⟨rfl, hb⟩; refine ⟨_, rfl, ?_⟩; have n0_ := Aside0.mk (below_step (by repeat (first | (with_reducible first | exact HB.out | apply below_alloc | apply pw_below_drewN | apply below_drew1) | exact HB.out)) hb); clear HB; have HB := n0_; clear n0_; (try clear hb); (try clear hb2); (try clear hk); (try clear hi)))
      go_ret
      exact ⟨by first | rfl | (simp [errW_none, errW_some] <;> rfl) | (simp [*, errW_none, errW_some] <;> rfl), by repeat (first | (with_reducible first | exact HB.out | apply below_alloc | apply pw_below_drewN | apply below_drew1) | exact HB.out)⟩
     ·rw [if_neg c21] at H
      have c21b0 : (t211 == 0) = false := beq_eq_false_iff_ne.mpr c21
      have c21b1 : (t211 != 0) = true := bne_iff_ne.mpr c21
      replace H := Option.bind_eq_some_iff.mp H
      obtain ⟨t212, A230, H⟩ := H
      replace H : (some (t212.toList == a1.toList)) = some r := H
      have A23 := Aside0.mk A230
      clear A230
      obtain rfl := Option.some.inj H
      go_wp2_with (first | ((with_reducible refine gate_callee (f := 10) rfl ?_); refine goesL_ (some 39) rfl rfl Try.func10 (by kernel_rfl) rfl #[.string a1] rfl (by (try simp only [List.map_toArray, List.map_cons, List.map_nil]); first | done | rfl | (simp only [List.length_drop, List.length_take]; rfl)) ?_; (with_reducible refine (verb_Kind.calls a1 t211 _ A20.out).mono ?_); rintro e w24 ⟨rfl, hb⟩; refine ⟨_, rfl, ?_⟩; have n0_ := Aside0.mk (below_step (by repeat (first | (with_reducible first | exact HB.out | apply below_alloc | apply pw_below_drewN | apply below_drew1) | exact HB.out)) hb); clear HB; have HB := n0_; clear n0_; (try clear hb); (try clear hb2); (try clear hk); (try clear hi)) | (go_at_call 8; (with_reducible refine (verb_Name.calls t211 t212 _ A23.out).mono ?_); rintro e w25 ⟨rfl, hb⟩; have n0_ := Aside0.mk (below_step (by repeat (first | (with_reducible first | exact HB.out | apply below_alloc | apply pw_below_drewN | apply below_drew1) | exact HB.out)) hb); clear HB; have HB := n0_; clear n0_; (try clear hb); (try clear hb2); (try clear hk); (try clear hi)))
      go_ret
      exact ⟨by first | rfl | (simp [errW_none, errW_some] <;> rfl) | (simp [*, errW_none, errW_some] <;> rfl), by repeat (first | (with_reducible first | exact HB.out | apply below_alloc | apply pw_below_drewN | apply below_drew1) | exact HB.out)⟩
 ·replace c5 := Bool.eq_false_iff.mpr c5
  subst c5
  have H1 : (some false) = some r := by rw [if_neg (show ¬ (false = true) by decide)] at H; exact H
  clear H
  have H := H1
  clear H1
  obtain rfl := Option.some.inj H
  go_enter Try.func5, Try.ntmps5
  go_wp2_with (first | ((with_reducible refine gate_callee (f := 23) rfl ?_); refine goesL_ (some 10) rfl rfl Try.func23 (by kernel_rfl) rfl #[] rfl (by (try simp only [List.map_toArray, List.map_cons, List.map_nil]); first | done | rfl | (simp only [List.length_drop, List.length_take]; rfl)) ?_; (with_reducible refine (tallboylaw15_works.calls k  false _ A4.out).mono ?_); rintro e w26 ⟨rfl, hb⟩; refine ⟨_, rfl, ?_⟩; have n0_ := Aside0.mk (below_step (by repeat (first | (with_reducible first | exact HB.out | apply below_alloc | apply pw_below_drewN | apply below_drew1) | exact HB.out)) hb); clear HB; have HB := n0_; clear n0_; (try clear hb); (try clear hb2); (try clear hk); (try clear hi)))
  go_ret
  exact ⟨by first | rfl | (simp [errW_none, errW_some] <;> rfl) | (simp [*, errW_none, errW_some] <;> rfl), by repeat (first | (with_reducible first | exact HB.out | apply below_alloc | apply pw_below_drewN | apply below_drew1) | exact HB.out)⟩

/-- THE ONE PURE STATEMENT of tallboylaw15_VerbBack: yours. -/
def tallboylaw15_VerbBack.Pure : Prop := ∀ (a0 : Int) (a1 : ByteArray) (a2 : Int), (Lit.int .i64 a0).wf = true → a1.size ≤ 140737488351232 → (Lit.int .i64 a2).wf = true → ∃ k, tallboylaw15_VerbBack.f k a0 a1 a2 = some true
theorem tallboylaw15_VerbBack.walk (P : tallboylaw15_VerbBack.Pure) (a0 : Int) (a1 : ByteArray) (a2 : Int) (w : World) (w0 : (Lit.int .i64 a0).wf = true) (w1 : a1.size ≤ 140737488351232) (w2 : (Lit.int .i64 a2).wf = true) :
  Calls Try.prog 5 #[.int .i64 a0, .string a1, .int .i64 a2] w fun e w' => e = .returned (.bool true) ∧ Below w.heap.size w w' := by
 obtain ⟨k, h⟩ := P a0 a1 a2 w0 w1 w2
 refine (tallboylaw15_VerbBack.calls k a0 a1 a2 true w h).mono ?_
 rintro e w' ⟨rfl, hd⟩
 exact ⟨rfl, hd⟩

-- NOT PRINTED: function 6 (tallboylaw15_VerbStripes)

end Go.Proofs.Ytmogojefpjmhkaa.P
