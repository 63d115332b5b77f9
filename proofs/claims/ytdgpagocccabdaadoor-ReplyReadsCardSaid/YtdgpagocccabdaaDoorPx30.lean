/- Lean functions for the Go functions that the laws of this seat use, and the proofs that the Go code computes them; conditions: the readings that each theorem names. Written by a program. -/
import Derived.Test.YtdgpagocccabdaaDoorPx0
import Derived.Test.YtdgpagocccabdaaDoorPx24
import Derived.Test.YtdgpagocccabdaaDoorPx28
import Derived.Test.YtdgpagocccabdaaDoorPx29
import Derived.Test.YtdgpagocccabdaaDoorShort
namespace Go.Proofs.YtdgpagocccabdaaDoor.P
open Go.RowKit Go.Proofs.YtdgpagocccabdaaDoorW.PrintWords Go.Proofs.YtdgpagocccabdaaDoorW.PrintLast Go.Proofs.YtdgpagocccabdaaDoorW.PrintMore
set_option linter.unusedVariables false
set_option linter.unusedSimpArgs false

/-! ### tallboylaw18_ReplyReads: function 4 -/
def tallboylaw18_ReplyReads.f (k : Nat) (a0 : Int) (a1 : ByteArray) : Option (Bool) := if (a1.size : Int) > 20000 then (some true) else ((reply_Read.f k a0 a1).bind fun bt232 => ((tallboyref18_Read.f k a0 a1).bind fun bt240 => ((tallboylaw16_From.f k bt232.1 bt232.2.1 bt232.2.2.1).bind fun bt248 => ((tallboyref15_Same.f k bt248.1 bt248.2.1 bt248.2.2 bt240.1 bt240.2.1 bt240.2.2.1).bind fun t253 => (if t253 = true then (if bt232.2.2.2.1 = bt240.2.2.2.1 then (some (bt232.2.2.2.2 == bt240.2.2.2.2)) else (none)) else (none))))))
theorem tallboylaw18_ReplyReads.mono : ∀ a0 a1 k, LeO (tallboylaw18_ReplyReads.f k a0 a1) (tallboylaw18_ReplyReads.f (k + 1) a0 a1) := by
 intro a0 a1 k
 unfold tallboylaw18_ReplyReads.f
 repeat' first | (with_reducible first | apply reply_Read.mono | apply tallboylaw16_From.mono | apply tallboyref15_Same.mono | apply tallboyref18_Read.mono | exact LeO.refl _ | exact LeO.none _ | refine LeO.ite ?_ ?_ | refine LeO.bind ?_ (fun _ => ?_)) | apply reply_Read.mono | apply tallboylaw16_From.mono | apply tallboyref15_Same.mono | apply tallboyref18_Read.mono | exact LeO.none _ | refine LeO.ite ?_ ?_ | refine LeO.bind ?_ (fun _ => ?_)
def tallboylaw18_ReplyReads.T5 : Bool × List (List Nat × List Nat) := (true, [([], []), ([0], [0]), ([], []), ([1, 2, 1], [1, 2]), ([3, 3], [3]), ([4], [4]), ([4], [4]), ([5, 6, 4], [4, 5, 6]), ([4, 7], [4, 7]), ([8, 4], [8]), ([9], [9]), ([9], [9]), ([10, 11, 9], [9, 10, 11]), ([9, 12], [9, 12]), ([13, 9, 0, 1, 2, 3, 4, 5, 6, 7, 8, 9, 10, 11, 12, 13], [13])])
def tallboylaw18_ReplyReads.B5 : List Nat := [0, 1, 0, 7, 15, 31, 31, 127, 255, 511, 1023, 1023, 4095, 8191, 16383]
theorem tallboylaw18_ReplyReads.tab5 : rtab .any (opsOf Tryd.f4 5) = tallboylaw18_ReplyReads.T5 := by kernel_rfl
theorem tallboylaw18_ReplyReads.bits5 : waitsOk tallboylaw18_ReplyReads.T5.2 tallboylaw18_ReplyReads.B5 = true := by kernel_rfl
set_option maxHeartbeats 8000000 in
set_option maxRecDepth 100000 in
theorem tallboylaw18_ReplyReads.calls (k : Nat) (a0 : Int) (a1 : ByteArray) (r : Bool) (w : World) (h : tallboylaw18_ReplyReads.f k a0 a1 = some r) (hL : LdU w) :
  Calls Tryd.prog 4 #[.int .i64 a0, .string a1] w fun e w' => e = .returned (.bool r) ∧ Below w.heap.size w w' := by
 have HL := Aside0.mk hL; clear hL; have hu30 := Tryd.underlying30; have hu25 := Tryd.underlying25; have HB := Aside0.mk (Below.refl w.heap.size w); have H : (if (a1.size : Int) > 20000 then (some true) else ((reply_Read.f k a0 a1).bind fun bt232 => ((tallboyref18_Read.f k a0 a1).bind fun bt240 => ((tallboylaw16_From.f k bt232.1 bt232.2.1 bt232.2.2.1).bind fun bt248 => ((tallboyref15_Same.f k bt248.1 bt248.2.1 bt248.2.2 bt240.1 bt240.2.1 bt240.2.2.1).bind fun t253 => (if t253 = true then (if bt232.2.2.2.1 = bt240.2.2.2.1 then (some (bt232.2.2.2.2 == bt240.2.2.2.2)) else (none)) else (none))))))) = some r := h; clear h
 by_cases c3 : (a1.size : Int) > 20000
 ·rw [if_pos c3] at H; have c3b0 : decide (20000 < (a1.size : Int)) = true := decide_eq_true c3; have c3b1 : decide (20000 < a1.size) = true := decide_eq_true (by omega); clear c3; obtain rfl := Option.some.inj H; go_enter Tryd.func4, Tryd.ntmps4; go_wp2; go_ret
  exact ⟨xR, bH HB.out⟩
 ·rw [if_neg c3] at H; have c3b0 : decide (20000 < (a1.size : Int)) = false := decide_eq_false c3; have c3b1 : decide (20000 < a1.size) = false := decide_eq_false (by omega); clear c3; replace H := Option.bind_eq_some_iff.mp H; obtain ⟨⟨t232, t233, t236, t237, t238⟩, A40, H⟩ := H; (try dsimp only at H); have A4 := Aside0.mk A40; clear A40; replace H := Option.bind_eq_some_iff.mp H; obtain ⟨⟨t240, t241, t244, t245, t246⟩, A50, H⟩ := H; (try dsimp only at H); have A5 := Aside0.mk A50; clear A50; replace H := Option.bind_eq_some_iff.mp H; obtain ⟨⟨t248, t249, t252⟩, A60, H⟩ := H; (try dsimp only at H); have A6 := Aside0.mk A60; clear A60; replace H := Option.bind_eq_some_iff.mp H; obtain ⟨t253, A70, H⟩ := H; (try dsimp only at H); have A7 := Aside0.mk A70; clear A70
  by_cases c8 : t253 = true
  ·subst c8; rw [if_pos rfl] at H
   by_cases c9 : t237 = t245
   ·rw [if_pos c9] at H; have c9b0 : (t237 == t245) = true := beq_iff_eq.mpr c9; have c9b1 : (t237 != t245) = false := bne_eq_false_iff_eq.mpr c9; clear c9; obtain rfl := Option.some.inj H; go_enter Tryd.func4, Tryd.ntmps4
    try go_wp2_with (first | ((with_reducible refine gate_callee (f := 14) rfl ?_); refine goesL_ (some 17) rfl rfl Tryd.func14 (by kernel_rfl) rfl #[.int .i64 a0, .string a1] rfl (by (try simp only [List.map_toArray, List.map_cons, List.map_nil]); first | done | rfl | (simp only [List.length_drop, List.length_take]; rfl)) ?_; (with_reducible refine (reply_Read.calls k a0 a1 t232 t233 t236 t237 t238 _ A4.out (by first | exact HL.out | exact LdU.on HL.out (bH HB.out))).mono ?_); rintro e w10 ⟨v234, rfl, ho0, hb⟩; refine ⟨_, rfl, ?_⟩; have HO235 := Aside0.mk (Kd.R_lower ho0 (below_size (bH HB.out))); replace HB := rS HB hb; (try clear hb); (try clear hk); (try clear ho0)) | ((with_reducible refine gate_dst (N := 5) rfl ?_); refine bE 5 #[.int .i64 0, .slice none 0 0, .int .u64 0] 30 rfl rfl ?_; intro gb239 hg w11 hbox hb; replace HO235 := Aside0.mk (Kd.R_below (by (with_reducible repeat (first | apply Kd.R_alloc | apply Kd.R_drewN | apply Kd.R_drew)); exact HO235.out) hb); have BK239 := rM hbox; have GW239 := rG HB hg; replace HB := rS HB hb; have GE239 := GW239; clear hb hbox hg; obtain ⟨hcz12, hfz12⟩ := d3 BK239; obtain ⟨Ao13, co13, eo13⟩ := Kd.R_slice HO235.out; subst eo13) | ((with_reducible refine gate_callee (f := 15) rfl ?_); refine goesL_ (some 24) rfl rfl Tryd.func15 (by kernel_rfl) rfl #[.int .i64 a0, .string a1] rfl (by (try simp only [List.map_toArray, List.map_cons, List.map_nil]); first | done | rfl | (simp only [List.length_drop, List.length_take]; rfl)) ?_; (with_reducible refine (tallboyref18_Read.calls k a0 a1 t240 t241 t244 t245 t246 _ A5.out).mono ?_); rintro e w14 ⟨v242, rfl, ho0, hb⟩; refine ⟨_, rfl, ?_⟩; replace HO235 := Aside0.mk (Kd.R_below (by (with_reducible repeat (first | apply Kd.R_alloc | apply Kd.R_drewN | apply Kd.R_drew)); exact (Kd.R_mono (Kd.R_far (p := ⟨gb239, 2, none⟩) (Kd.R_far (p := ⟨gb239, 1, none⟩) (Kd.R_far (p := ⟨gb239, 0, none⟩) (Kd.R_types HO235.out BK239.out (by decide)) (fun _ hk => hk.2) (.int .i64 t232)) (fun _ hk => hk.2) (.slice Ao13 t233.length co13)) (fun _ hk => hk.2) (.int .u64 t236)) (fun _ h_ => h_.1))) hb); have HO243 := Aside0.mk (Kd.R_lower ho0 (below_size (bH HB.out))); replace BK239 := Aside0.mk (blk_below (g := gb239) (o := .cells #[.int .i64 t232, .slice Ao13 t233.length co13, .int .u64 t236] 30 (0, 0)) (bV BK239.out) hb); replace HB := rS HB hb; (try clear hb); (try clear hk); (try clear ho0)) | ((with_reducible refine gate_dst (N := 8) rfl ?_); refine bE 8 #[.int .i64 0, .slice none 0 0, .int .u64 0] 25 rfl rfl ?_; intro gb247 hg w15 hbox hb; replace HO235 := Aside0.mk (Kd.R_below (by (with_reducible repeat (first | apply Kd.R_alloc | apply Kd.R_drewN | apply Kd.R_drew)); exact HO235.out) hb); replace HO243 := Aside0.mk (Kd.R_below (by (with_reducible repeat (first | apply Kd.R_alloc | apply Kd.R_drewN | apply Kd.R_drew)); exact HO243.out) hb); have BK247 := rM hbox; have GW247 := rG HB hg; replace HB := rS HB hb; have GE247 := GW247; have NB239_247 := rN BK239 hg; replace BK239 := rB BK239 hb; have NB247_239 := rY NB239_247; clear hb hbox hg; have hnb16 := rP NB247_239 NB239_247; obtain ⟨hcz17, hfz17⟩ := d3 BK247; obtain ⟨Ao18, co18, eo18⟩ := Kd.R_slice HO243.out; subst eo18))
    have n0_ : Aside0 (Kd.R k60 60 (((w15.setCell ⟨gb247, 0, none⟩ (.int .i64 t240)).setCell ⟨gb247, 1, none⟩ (.slice Ao18 t241.length co18)).setCell ⟨gb247, 2, none⟩ (.int .u64 t244)) w.heap.size (fun _ => True) (.slice Ao13 t233.length co13) t233) := ⟨by (with_reducible repeat (first | apply Kd.R_alloc | apply Kd.R_drewN | apply Kd.R_drew)); exact Kd.R_mono (Kd.R_far (p := ⟨gb247, 2, none⟩) (Kd.R_far (p := ⟨gb247, 1, none⟩) (Kd.R_far (p := ⟨gb247, 0, none⟩) (Kd.R_types HO235.out BK247.out (by decide)) (fun _ hk => hk.2) (.int .i64 t240)) (fun _ hk => hk.2) (.slice Ao18 t241.length co18)) (fun _ hk => hk.2) (.int .u64 t244)) (fun _ hk => trivial)⟩; have n1_ : Aside0 (Kd.R k47 47 (((w15.setCell ⟨gb247, 0, none⟩ (.int .i64 t240)).setCell ⟨gb247, 1, none⟩ (.slice Ao18 t241.length co18)).setCell ⟨gb247, 2, none⟩ (.int .u64 t244)) w.heap.size (fun _ => True) (.slice Ao18 t241.length co18) t241) := ⟨by (with_reducible repeat (first | apply Kd.R_alloc | apply Kd.R_drewN | apply Kd.R_drew)); exact Kd.R_mono (Kd.R_far (p := ⟨gb247, 2, none⟩) (Kd.R_far (p := ⟨gb247, 1, none⟩) (Kd.R_far (p := ⟨gb247, 0, none⟩) (Kd.R_types HO243.out BK247.out (by decide)) (fun _ hk => hk.2) (.int .i64 t240)) (fun _ hk => hk.2) (.slice Ao18 t241.length co18)) (fun _ hk => hk.2) (.int .u64 t244)) (fun _ hk => trivial)⟩; have n2_ : Aside0 ((((w15.setCell ⟨gb247, 0, none⟩ (.int .i64 t240)).setCell ⟨gb247, 1, none⟩ (.slice Ao18 t241.length co18)).setCell ⟨gb247, 2, none⟩ (.int .u64 t244)).heap[gb239]? = some (.cells #[.int .i64 t232, .slice Ao13 t233.length co13, .int .u64 t236] 30 (0, 0))) := ⟨bK BK239.out⟩
    have n3_ : Aside0 ((((w15.setCell ⟨gb247, 0, none⟩ (.int .i64 t240)).setCell ⟨gb247, 1, none⟩ (.slice Ao18 t241.length co18)).setCell ⟨gb247, 2, none⟩ (.int .u64 t244)).heap[gb247]? = some (.cells #[.int .i64 t240, .slice Ao18 t241.length co18, .int .u64 t244] 25 (0, 0))) := ⟨bV BK247.out⟩; have n4_ : Aside0 (Below w.heap.size w (((w15.setCell ⟨gb247, 0, none⟩ (.int .i64 t240)).setCell ⟨gb247, 1, none⟩ (.slice Ao18 t241.length co18)).setCell ⟨gb247, 2, none⟩ (.int .u64 t244))) := ⟨bH HB.out⟩
    (try clear HO235)
    (try clear HO243)
    (try clear BK239)
    (try clear BK247)
    (try clear HB)
    generalize (((w15.setCell ⟨gb247, 0, none⟩ (.int .i64 t240)).setCell ⟨gb247, 1, none⟩ (.slice Ao18 t241.length co18)).setCell ⟨gb247, 2, none⟩ (.int .u64 t244)) = w19 at n0_ n1_ n2_ n3_ n4_ ⊢; have HO235 := n0_; have HO243 := n1_; have BK239 := n2_; have BK247 := n3_; have HB := n4_; clear n0_ n1_ n2_ n3_ n4_; replace HO235 := Aside0.mk (Kd.R_drew HO235.out); replace HO243 := Aside0.mk (Kd.R_drew HO243.out); replace BK239 := Aside0.mk (bD BK239.out); replace BK247 := Aside0.mk (bD BK247.out); replace HB := Aside0.mk (eD HB.out); refine start_ (n := 15) (S := fun w' => w'.cell? ⟨gb239, 0, none⟩ = some (.int .i64 t232) ∧ w'.cell? ⟨gb239, 1, none⟩ = some (.slice Ao13 t233.length co13) ∧ w'.cell? ⟨gb239, 2, none⟩ = some (.int .u64 t236) ∧ w'.cell? ⟨gb247, 0, none⟩ = some (.int .i64 t240) ∧ w'.cell? ⟨gb247, 1, none⟩ = some (.slice Ao18 t241.length co18) ∧ w'.cell? ⟨gb247, 2, none⟩ = some (.int .u64 t244)) (ds := []) #[false, false, false, false, false, false, false, false, false, false, false, false, false, false, false] (by kernel_rfl) rfl rfl ⟨kC BK239 0, kC BK239 1, kC BK239 2, kC BK247 0, kC BK247 1, kC BK247 2⟩ (fun hHeld => ?_); refine with_tabW tallboylaw18_ReplyReads.tab5 tallboylaw18_ReplyReads.bits5 (fun HT_ HW_ => ?_)
    generalize w19.drew = w20 at HO235 HO243 BK239 BK247 HB hHeld ⊢; refine tU HT_ HW_ hHeld 0 (some 28) ?_ #[true, false, false, false, false, false, false, false, false, false, false, false, false, false, false] rfl rfl ?_ ?_ ?_ ?_
    rotate_left
    ·rintro w' ⟨s0, s1, s2, s3, s4, s5⟩
     go_simp
     with_reducible rfl
    rotate_left
    ·simp only [Act.put, sA, sB, sC, i64_w, i32_w]
     rfl
    refine tU HT_ HW_ hHeld 2 (some 30) ?_ #[true, false, true, false, false, false, false, false, false, false, false, false, false, false, false] rfl rfl ?_ ?_ ?_ ?_
    rotate_left
    ·rintro w' ⟨s0, s1, s2, s3, s4, s5⟩
     go_simp
     with_reducible rfl
    rotate_left
    ·simp only [Act.put, sA, sB, sC, i64_w, i32_w]
     rfl
    refine one_ (i := 1) (N := some 29) #[true, true, true, false, false, false, false, false, false, false, false, false, false, false, false] rfl rfl (one_of HT_.out (by kernel_rfl)) (by decide) (fun K hK => ?_)
    refine goes_ Tryd.func17 (by kernel_rfl) rfl #[.agg #[.int .i64 t232, .slice Ao13 t233.length co13, .int .u64 t236]] (by rfl) rfl rfl (by (try simp only [List.map_toArray, List.map_cons, List.map_nil]); first | done | rfl | (simp only [List.length_drop, List.length_take]; rfl)) ?_
    with_reducible refine (tallboylaw16_From.calls k t232 _ _ t233 t236 t248 t249 t252 _ ?side1 ?side2 A6.out).mono ?_
    (case side1 => repeat (first | exact (Kd.R_reads' HO235.out).2.2 | (with_reducible refine Kd.C_alloc ?_ _) | (with_reducible refine Kd.C_drewN ?_ _) | (with_reducible refine Kd.C_drew ?_)))
    (case side2 => exact (Kd.R_reads' HO235.out).2.1)
    rintro e w21 ⟨v250, rfl, ho0, hb⟩
    refine ⟨_, rfl, ?_⟩
    replace HO235 := Aside0.mk (Kd.R_below (by (with_reducible repeat (first | apply Kd.R_alloc | apply Kd.R_drewN | apply Kd.R_drew)); exact HO235.out) hb); have HO251 := Aside0.mk (Kd.R_lower (Kd.R_new' ho0 (Kd.R_lt (by (with_reducible repeat (first | apply Kd.R_alloc | apply Kd.R_drewN | apply Kd.R_drew)); exact HO243.out))) (below_size (bH HB.out))); replace HO243 := Aside0.mk (Kd.R_elder' (by (with_reducible repeat (first | apply Kd.R_alloc | apply Kd.R_drewN | apply Kd.R_drew)); exact HO243.out) (Kd.R_base ho0) hb); replace BK239 := rB BK239 hb; replace BK247 := rB BK247 hb; replace HB := rS HB hb
    (try clear hb)
    
    (try clear hk)
    
    (try clear ho0)
    obtain ⟨Ao22, co22, eo22⟩ := Kd.R_slice HO251.out
    (first | subst eo22 | (injection eo22 with f1_ f2_ f3_; have f4_ := f1_.symm; have f5_ := f3_.symm; clear f1_ f2_ f3_; subst f4_; subst f5_))
    refine hK.out _ _ ⟨kC BK239 0, kC BK239 1, kC BK239 2, kC BK247 0, kC BK247 1, kC BK247 2⟩ (fun hHeld => ?_)
    clear hK K; refine norm_ (a' := ?_) ?_ ?_
    rotate_left
    ·show Act.put _ (some 29) _ = _
     simp only [Act.put, sA, sB, sC, i64_w, i32_w]
     rfl
    refine one_ (i := 3) (N := some 31) #[true, true, true, true, false, false, false, false, false, false, false, false, false, false, false] rfl rfl (one_of HT_.out (by kernel_rfl)) (by decide) (fun K hK => ?_)
    refine goes_ Tryd.func16 (by kernel_rfl) rfl #[.agg #[.int .i64 t248, .slice Ao22 t249.length co22, .int .u64 t252], .agg #[.int .i64 t240, .slice Ao18 t241.length co18, .int .u64 t244]] (by rfl) rfl rfl (by (try simp only [List.map_toArray, List.map_cons, List.map_nil]); first | done | rfl | (simp only [List.length_drop, List.length_take]; rfl)) ?_
    with_reducible refine (tallboyref15_Same.calls k t248 _ _ t249 t252 t240 _ _ t241 t244 true _ ?side1 ?side2 ?side3 ?side4 A7.out).mono ?_
    (case side1 => repeat (first | exact (Kd.R_reads' HO251.out).2.2 | (with_reducible refine Kd.C_alloc ?_ _) | (with_reducible refine Kd.C_drewN ?_ _) | (with_reducible refine Kd.C_drew ?_)))
    (case side2 => exact (Kd.R_reads' HO251.out).2.1)
    (case side3 => repeat (first | exact (Kd.R_reads' HO243.out).2.2 | (with_reducible refine Kd.C_alloc ?_ _) | (with_reducible refine Kd.C_drewN ?_ _) | (with_reducible refine Kd.C_drew ?_)))
    (case side4 => exact (Kd.R_reads' HO243.out).2.1)
    rintro e w23 ⟨rfl, hb⟩
    refine ⟨_, rfl, ?_⟩
    replace HO235 := Aside0.mk (Kd.R_below (by (with_reducible repeat (first | apply Kd.R_alloc | apply Kd.R_drewN | apply Kd.R_drew)); exact HO235.out) hb); replace HO243 := Aside0.mk (Kd.R_below (by (with_reducible repeat (first | apply Kd.R_alloc | apply Kd.R_drewN | apply Kd.R_drew)); exact HO243.out) hb); replace HO251 := Aside0.mk (Kd.R_below (by (with_reducible repeat (first | apply Kd.R_alloc | apply Kd.R_drewN | apply Kd.R_drew)); exact HO251.out) hb); replace BK239 := rB BK239 hb; replace BK247 := rB BK247 hb; replace HB := rS HB hb
    (try clear hb)
    
    (try clear hk)
    
    refine hK.out _ _ ⟨kC BK239 0, kC BK239 1, kC BK239 2, kC BK247 0, kC BK247 1, kC BK247 2⟩ (fun hHeld => ?_)
    clear hK K; refine norm_ (a' := ?_) ?_ ?_
    rotate_left
    ·show Act.put _ (some 31) _ = _
     simp only [Act.put, sA, sB, sC, i64_w, i32_w]
     rfl
    refine pU HT_ 4 (some 32) ?_ #[true, true, true, true, true, false, false, false, false, false, false, false, false, false, false] rfl rfl ?_ ?_ ?_ ?_
    rotate_left
    ·intro w'
     go_simp
     with_reducible rfl
    rotate_left
    ·simp only [Act.put, sA, sB, sC, i64_w, i32_w]
     rfl
    refine pU HT_ 5 (some 33) ?_ #[true, true, true, true, true, true, false, false, false, false, false, false, false, false, false] rfl rfl ?_ ?_ ?_ ?_
    rotate_left
    ·intro w'
     go_simp
     with_reducible rfl
    rotate_left
    ·simp only [Act.put, sA, sB, sC, i64_w, i32_w]
     rfl
    refine pU HT_ 6 (some 34) ?_ #[true, true, true, true, true, true, true, false, false, false, false, false, false, false, false] rfl rfl ?_ ?_ ?_ ?_
    rotate_left
    ·intro w'
     go_simp
     with_reducible rfl
    rotate_left
    ·simp only [Act.put, sA, sB, sC, i64_w, i32_w]
     rfl
    refine pU HT_ 7 (some 35) ?_ #[true, true, true, true, true, true, true, true, false, false, false, false, false, false, false] rfl rfl ?_ ?_ ?_ ?_
    rotate_left
    ·intro w'
     go_simp
     with_reducible rfl
    rotate_left
    ·simp only [Act.put, sA, sB, sC, i64_w, i32_w]
     rfl
    refine pU HT_ 8 (some 36) ?_ #[true, true, true, true, true, true, true, true, true, false, false, false, false, false, false] rfl rfl ?_ ?_ ?_ ?_
    rotate_left
    ·intro w'
     go_simp
     with_reducible rfl
    rotate_left
    ·simp only [Act.put, sA, sB, sC, i64_w, i32_w]
     rfl
    refine pU HT_ 9 (some 37) ?_ #[true, true, true, true, true, true, true, true, true, true, false, false, false, false, false] rfl rfl ?_ ?_ ?_ ?_
    rotate_left
    ·intro w'
     go_simp
     with_reducible rfl
    rotate_left
    ·simp only [Act.put, sA, sB, sC, i64_w, i32_w]
     rfl
    refine pU HT_ 10 (some 38) ?_ #[true, true, true, true, true, true, true, true, true, true, true, false, false, false, false] rfl rfl ?_ ?_ ?_ ?_
    rotate_left
    ·intro w'
     go_simp
     with_reducible rfl
    rotate_left
    ·simp only [Act.put, sA, sB, sC, i64_w, i32_w]
     rfl
    refine pU HT_ 11 (some 39) ?_ #[true, true, true, true, true, true, true, true, true, true, true, true, false, false, false] rfl rfl ?_ ?_ ?_ ?_
    rotate_left
    ·intro w'
     go_simp
     with_reducible rfl
    rotate_left
    ·simp only [Act.put, sA, sB, sC, i64_w, i32_w]
     rfl
    refine pU HT_ 12 (some 40) ?_ #[true, true, true, true, true, true, true, true, true, true, true, true, true, false, false] rfl rfl ?_ ?_ ?_ ?_
    rotate_left
    ·intro w'
     go_simp
     with_reducible rfl
    rotate_left
    ·simp only [Act.put, sA, sB, sC, i64_w, i32_w]
     rfl
    refine pU HT_ 13 (some 41) ?_ #[true, true, true, true, true, true, true, true, true, true, true, true, true, true, false] rfl rfl ?_ ?_ ?_ ?_
    rotate_left
    ·intro w'
     go_simp
     with_reducible rfl
    rotate_left
    ·simp only [Act.put, sA, sB, sC, i64_w, i32_w]
     rfl
    refine pU HT_ 14 (some 4) ?_ #[true, true, true, true, true, true, true, true, true, true, true, true, true, true, true] rfl rfl ?_ ?_ ?_ ?_
    rotate_left
    ·intro w'
     go_simp
     with_reducible rfl
    rotate_left
    ·simp only [Act.put, sA, sB, sC, i64_w, i32_w]
     rfl
    refine done_ (done_of HT_.out (by kernel_rfl)) ?_
    try go_wp2
    go_ret
    exact ⟨xR, bH HB.out⟩
   ·rw [if_neg c9] at H; have c9b0 : (t237 == t245) = false := beq_eq_false_iff_ne.mpr c9; have c9b1 : (t237 != t245) = true := bne_iff_ne.mpr c9; exact absurd H (by simp)
  ·replace c8 := Bool.eq_false_iff.mpr c8; subst c8; rw [if_neg (show ¬ (false = true) by decide)] at H; exact absurd H (by simp)

end Go.Proofs.YtdgpagocccabdaaDoor.P
