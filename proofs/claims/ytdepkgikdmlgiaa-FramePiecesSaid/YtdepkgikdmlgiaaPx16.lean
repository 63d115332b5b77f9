/- Lean functions for the Go functions that the laws of this seat use, and the proofs that the Go code computes them; conditions: the readings that each theorem names. Written by a program. -/
import Derived.Test.YtdepkgikdmlgiaaPx0
import Derived.Test.YtdepkgikdmlgiaaPx15
import Derived.Test.YtdepkgikdmlgiaaShort
namespace Go.Proofs.Ytdepkgikdmlgiaa.P
open Go.RowKit Go.Proofs.YtdepkgikdmlgiaaW.PrintWords Go.Proofs.YtdepkgikdmlgiaaW.PrintLast Go.Proofs.YtdepkgikdmlgiaaW.PrintMore
set_option linter.unusedVariables false
set_option linter.unusedSimpArgs false

/-! ### frame_Reply: function 24 -/
set_option maxHeartbeats 8000000 in
set_option maxRecDepth 100000 in
theorem frame_Reply.calls (k : Nat) (a0_0 : Bool) (a0_1 : Int) (a0_2 : Int) (a0_3 : Int) (a0_4 : Int) (a0_5 : ByteArray) (a0_6 : ByteArray) (a0_7 : ByteArray) (a1_0 : Int) (A1_1 : Option Addr) (c1_1 : Nat) (l1_1 : List (S102)) (a1_2 : Int) (a2 : Int) (r1 : Bool) (r2 : Int) (r3 : Int) (r4 : Int) (r5 : Int) (r6 : ByteArray) (r7 : ByteArray) (r8 : ByteArray) (r9 : Bool) (w : World) (hr1_1 : Kd.C k102 w A1_1 l1_1.length l1_1) (hc1_1 : l1_1.length ≤ c1_1) (h : frame_Reply.f k a0_0 a0_1 a0_2 a0_3 a0_4 a0_5 a0_6 a0_7 a1_0 l1_1 a1_2 a2 = some (r1, r2, r3, r4, r5, r6, r7, r8, r9)) :
  Calls Try.prog 24 #[.agg #[.bool a0_0, .int .u8 a0_1, .int .u16 a0_2, .int .u32 a0_3, .int .u64 a0_4, .string a0_5, .string a0_6, .string a0_7], .agg #[.int .i64 a1_0, .slice A1_1 l1_1.length c1_1, .int .u64 a1_2], .int .u64 a2] w fun e w' => e = .returned (.tuple #[.agg #[.bool r1, .int .u8 r2, .int .u16 r3, .int .u32 r4, .int .u64 r5, .string r6, .string r7, .string r8], .bool r9]) ∧ Below w.heap.size w w' := by
 have hu31 := Try.underlying31; have hu61 := Try.underlying61; have hu102 := Try.underlying102; have HR1_1 := Aside0.mk hr1_1; have HC1_1 := Aside0.mk hc1_1; clear hr1_1 hc1_1; have HB := Aside0.mk (Below.refl w.heap.size w); have H : ((frame_find.f k a0_1).bind fun bt225 => ((frame_status.f k a1_0).bind fun t227 => (if a1_0 = 1 then (frame_Reply.j0 k a2 bt225.1 bt225.2 (decide ((l1_1.length : Int) > 0)) a0_0 a0_1 a0_2 a0_3 a0_4 a0_5 a0_6 a0_7 a1_0 l1_1 a1_2 true a0_1 t227 a0_3 0 (⟨#[]⟩ : ByteArray) (⟨#[]⟩ : ByteArray) (⟨#[]⟩ : ByteArray)) else (frame_Reply.j0 k a2 bt225.1 bt225.2 false a0_0 a0_1 a0_2 a0_3 a0_4 a0_5 a0_6 a0_7 a1_0 l1_1 a1_2 true a0_1 t227 a0_3 0 (⟨#[]⟩ : ByteArray) (⟨#[]⟩ : ByteArray) (⟨#[]⟩ : ByteArray))))) = some (r1, r2, r3, r4, r5, r6, r7, r8, r9) := h; clear h; replace H := Option.bind_eq_some_iff.mp H; obtain ⟨⟨t225, t226⟩, A40, H⟩ := H; (try dsimp only at H); have A4 := Aside0.mk A40; clear A40; replace H := Option.bind_eq_some_iff.mp H; obtain ⟨t227, A50, H⟩ := H; (try dsimp only at H); have A5 := Aside0.mk A50; clear A50; have HC6 := Aside0.mk H; clear H; go_enter Try.func24, Try.ntmps24
 try go_wp2_with (first | ((with_reducible refine gate_dst (N := 3) rfl ?_); (try (refine gate_guard (by rfl) ?_; dsimp only)); refine bE 3 #[.bool a0_0, .int .u8 a0_1, .int .u16 a0_2, .int .u32 a0_3, .int .u64 a0_4, .string a0_5, .string a0_6, .string a0_7] 31 rfl rfl ?_; intro gb222 hg w7 hbox hb; have BK222 := rM hbox; have GW222 := rG HB hg; replace HB := rS HB hb; have GE222 := GW222; clear hb hbox hg) | ((with_reducible refine gate_dst (N := 4) rfl ?_); (try (refine gate_guard (by rfl) ?_; dsimp only)); refine bE 4 #[.int .i64 a1_0, .slice A1_1 l1_1.length c1_1, .int .u64 a1_2] 61 rfl rfl ?_; intro gb223 hg w8 hbox hb; have BK223 := rM hbox; have GW223 := rG HB hg; replace HB := rS HB hb; have GE223 := GW223; have NB222_223 := rN BK222 hg; replace BK222 := rB BK222 hb; have NB223_222 := rY NB222_223; clear hb hbox hg) | ((with_reducible refine gate_dst (N := 6) rfl ?_); (try (refine gate_guard (by rfl) ?_; dsimp only)); refine bE 6 #[.bool false, .int .u8 0, .int .u16 0, .int .u32 0, .int .u64 0, .string (⟨#[]⟩ : ByteArray), .string (⟨#[]⟩ : ByteArray), .string (⟨#[]⟩ : ByteArray)] 31 rfl rfl ?_; intro gb224 hg w9 hbox hb; have BK224 := rM hbox; have GW224 := rG HB hg; replace HB := rS HB hb; have GE224 := GW224; have NB222_224 := rN BK222 hg; replace BK222 := rB BK222 hb; have NB224_222 := rY NB222_224; have NB223_224 := rN BK223 hg; replace BK223 := rB BK223 hb; have NB224_223 := rY NB223_224; clear hb hbox hg; have hnb10 := rP NB222_223 NB223_222; have hnb11 := rP NB222_224 NB224_222; obtain ⟨hcz12, hfz12⟩ := d8 BK222) | ((with_reducible refine gate_callee (f := 43) rfl ?_); refine gL (some 17) rfl rfl Try.func43 #[.int .u8 a0_1] rfl ?_; (with_reducible refine (frame_find.calls k a0_1 t225 t226 _ A4.out).mono ?_); rintro e w13 ⟨rfl, hb⟩; refine ⟨_, rfl, ?_⟩; replace BK222 := rB BK222 hb; replace BK223 := rB BK223 hb; replace BK224 := rB BK224 hb; replace HB := rS HB hb; (try clear hb); ))
 replace BK222 := Aside0.mk (bD BK222.out); replace BK223 := Aside0.mk (bD BK223.out); replace BK224 := Aside0.mk (bD BK224.out); replace HB := Aside0.mk (eD HB.out); refine start_ (n := 10) (S := fun w' => w'.cell? ⟨gb222, 0, none⟩ = some (.bool a0_0) ∧ w'.cell? ⟨gb222, 1, none⟩ = some (.int .u8 a0_1) ∧ w'.cell? ⟨gb222, 2, none⟩ = some (.int .u16 a0_2) ∧ w'.cell? ⟨gb222, 3, none⟩ = some (.int .u32 a0_3) ∧ w'.cell? ⟨gb222, 4, none⟩ = some (.int .u64 a0_4) ∧ w'.cell? ⟨gb222, 5, none⟩ = some (.string a0_5) ∧ w'.cell? ⟨gb222, 6, none⟩ = some (.string a0_6) ∧ w'.cell? ⟨gb222, 7, none⟩ = some (.string a0_7) ∧ w'.cell? ⟨gb223, 0, none⟩ = some (.int .i64 a1_0) ∧ w'.cell? ⟨gb223, 1, none⟩ = some (.slice A1_1 l1_1.length c1_1) ∧ w'.cell? ⟨gb223, 2, none⟩ = some (.int .u64 a1_2)) (ds := []) #[false, false, false, false, false, false, false, false, false, false] (by kernel_rfl) rfl rfl ⟨kC BK222 0, kC BK222 1, kC BK222 2, kC BK222 3, kC BK222 4, kC BK222 5, kC BK222 6, kC BK222 7, kC BK223 0, kC BK223 1, kC BK223 2⟩ (fun hHeld => ?_); refine with_tabW frame_Reply.tab2 frame_Reply.bits2 (fun HT_ HW_ => ?_)
 generalize w13.drew = w14 at BK222 BK223 BK224 HB hHeld ⊢; refine pU HT_ 0 (some 20) ?_ #[true, false, false, false, false, false, false, false, false, false] rfl rfl ?_ ?_ ?_ ?_
 rotate_left
 ·intro w'
  go_simp
  with_reducible rfl
 rotate_left
 ·simp only [Act.put, sA, sB, sC, i64_w, i32_w]
  rfl
 refine pU HT_ 2 (some 22) ?_ #[true, false, true, false, false, false, false, false, false, false] rfl rfl ?_ ?_ ?_ ?_
 rotate_left
 ·intro w'
  go_simp
  with_reducible rfl
 rotate_left
 ·simp only [Act.put, sA, sB, sC, i64_w, i32_w]
  rfl
 refine pU HT_ 4 (some 24) ?_ #[true, false, true, false, true, false, false, false, false, false] rfl rfl ?_ ?_ ?_ ?_
 rotate_left
 ·intro w'
  go_simp
  with_reducible rfl
 rotate_left
 ·simp only [Act.put, sA, sB, sC, i64_w, i32_w]
  rfl
 refine tU HT_ HW_ hHeld 1 (some 21) ?_ #[true, true, true, false, true, false, false, false, false, false] rfl rfl ?_ ?_ ?_ ?_
 rotate_left
 ·rintro w' ⟨s0, s1, s2, s3, s4, s5, s6, s7, s8, s9, s10⟩
  go_simp
  with_reducible rfl
 rotate_left
 ·simp only [Act.put, sA, sB, sC, i64_w, i32_w]
  rfl
 refine tU HT_ HW_ hHeld 3 (some 23) ?_ #[true, true, true, true, true, false, false, false, false, false] rfl rfl ?_ ?_ ?_ ?_
 rotate_left
 ·rintro w' ⟨s0, s1, s2, s3, s4, s5, s6, s7, s8, s9, s10⟩
  go_simp
  with_reducible rfl
 rotate_left
 ·simp only [Act.put, sA, sB, sC, i64_w, i32_w]
  rfl
 refine tU HT_ HW_ hHeld 5 (some 25) ?_ #[true, true, true, true, true, true, false, false, false, false] rfl rfl ?_ ?_ ?_ ?_
 rotate_left
 ·rintro w' ⟨s0, s1, s2, s3, s4, s5, s6, s7, s8, s9, s10⟩
  go_simp
  with_reducible rfl
 rotate_left
 ·simp only [Act.put, sA, sB, sC, i64_w, i32_w]
  rfl
 refine join_ (σ := Nat) 1 #[true, true, true, true, true, true, true, true, true, false] (fun s_ => [(26, .int .u16 t227), (10, .pointer (some ⟨s_, 0, none⟩)), (27, .agg #[.bool true, .int .u8 a0_1, .int .u16 t227, .int .u32 a0_3, .int .u64 0, .string (⟨#[]⟩ : ByteArray), .string (⟨#[]⟩ : ByteArray), .string (⟨#[]⟩ : ByteArray)])]) (fun s_ w' => (w'.cell? ⟨gb222, 0, none⟩ = some (.bool a0_0) ∧ w'.cell? ⟨gb222, 1, none⟩ = some (.int .u8 a0_1) ∧ w'.cell? ⟨gb222, 2, none⟩ = some (.int .u16 a0_2) ∧ w'.cell? ⟨gb222, 3, none⟩ = some (.int .u32 a0_3) ∧ w'.cell? ⟨gb222, 4, none⟩ = some (.int .u64 a0_4) ∧ w'.cell? ⟨gb222, 5, none⟩ = some (.string a0_5) ∧ w'.cell? ⟨gb222, 6, none⟩ = some (.string a0_6) ∧ w'.cell? ⟨gb222, 7, none⟩ = some (.string a0_7) ∧ w'.cell? ⟨gb223, 0, none⟩ = some (.int .i64 a1_0) ∧ w'.cell? ⟨gb223, 1, none⟩ = some (.slice A1_1 l1_1.length c1_1) ∧ w'.cell? ⟨gb223, 2, none⟩ = some (.int .u64 a1_2)) ∧ (w'.heap[gb222]? = some (.cells #[.bool a0_0, .int .u8 a0_1, .int .u16 a0_2, .int .u32 a0_3, .int .u64 a0_4, .string a0_5, .string a0_6, .string a0_7] 31 (0, 0))) ∧ (w'.heap[gb223]? = some (.cells #[.int .i64 a1_0, .slice A1_1 l1_1.length c1_1, .int .u64 a1_2] 61 (0, 0))) ∧ (w'.heap[gb224]? = some (.cells #[.bool false, .int .u8 0, .int .u16 0, .int .u32 0, .int .u64 0, .string (⟨#[]⟩ : ByteArray), .string (⟨#[]⟩ : ByteArray), .string (⟨#[]⟩ : ByteArray)] 31 (0, 0))) ∧ (w'.heap[s_]? = some (.cells #[.bool false, .int .u8 0, .int .u16 0, .int .u32 0, .int .u64 0, .string (⟨#[]⟩ : ByteArray), .string (⟨#[]⟩ : ByteArray), .string (⟨#[]⟩ : ByteArray)] 31 (0, 0))) ∧ (w.heap.size ≤ s_) ∧ (w.heap.size ≤ s_) ∧ (gb222 ≠ s_) ∧ (s_ ≠ gb222) ∧ (gb223 ≠ s_) ∧ (s_ ≠ gb223) ∧ (gb224 ≠ s_) ∧ (s_ ≠ gb224) ∧ (Below w.heap.size w w')) ?_ ?_
 rotate_left
 ·intro hCont
  refine two_ (i := 6) (j := 8) (Ni := some 26) (Nj := some 10) #[true, true, true, true, true, true, true, false, false, false] #[true, true, true, true, true, true, false, false, true, false] rfl rfl rfl rfl (two_of HT_.out (by kernel_rfl)) (by decide) (by decide) (fun K hK => ?_) (fun K hK => ?_)
  ·skip
   refine goes_ Try.func44 (by kernel_rfl) rfl #[.int .i64 a1_0] (by rfl) rfl rfl (by (try simp only [List.map_toArray, List.map_cons, List.map_nil]); first | done | rfl | (simp only [List.length_drop, List.length_take]; rfl)) ?_
   with_reducible refine (frame_status.calls k a1_0 t227 _ A5.out).mono ?_
   rintro e w' ⟨rfl, ⟨nd, rfl⟩⟩
   refine ⟨_, rfl, ?_⟩
   refine hK.out _ _ ⟨kC BK222 0, kC BK222 1, kC BK222 2, kC BK222 3, kC BK222 4, kC BK222 5, kC BK222 6, kC BK222 7, kC BK223 0, kC BK223 1, kC BK223 2⟩ (fun hHeld => ?_)
   clear hK K; refine norm_ (a' := ?_) ?_ ?_
   rotate_left
   ·show Act.put _ (some 26) _ = _
    simp only [Act.put, sA, sB, sC, i64_w, i32_w]
    rfl
   refine pU HT_ 7 (some 27) ?_ #[true, true, true, true, true, true, true, true, false, false] rfl rfl ?_ ?_ ?_ ?_
   rotate_left
   ·intro w'
    go_simp
    with_reducible rfl
   rotate_left
   ·simp only [Act.put, sA, sB, sC, i64_w, i32_w]
    rfl
   refine one_ (i := 8) (N := some 10) #[true, true, true, true, true, true, true, true, true, false] rfl rfl (one_of HT_.out (by kernel_rfl)) (by decide) (fun K hK => ?_)
   refine box_step ?hg (N := 10) ?hd (cs := #[.bool false, .int .u8 0, .int .u16 0, .int .u32 0, .int .u64 0, .string (⟨#[]⟩ : ByteArray), .string (⟨#[]⟩ : ByteArray), .string (⟨#[]⟩ : ByteArray)]) (t := 31) ?hr ?_; (case hd => rfl); (case hg => rfl); (case hr => first | (go_simp; done) | (go_simp; rfl))
   intro gb228 hg w15 hbox hb
   have BK228 := rM hbox; have GW228 := rG HB hg; replace HB := rS HB hb; have GE228 := GW228; have NB222_228 := rN BK222 hg; replace BK222 := rB BK222 hb; have NB228_222 := rY NB222_228; have NB223_228 := rN BK223 hg; replace BK223 := rB BK223 hb; have NB228_223 := rY NB223_228; have NB224_228 := rN BK224 hg; replace BK224 := rB BK224 hb; have NB228_224 := rY NB224_228; clear hb hbox hg; refine hK.out _ _ ⟨kC BK222 0, kC BK222 1, kC BK222 2, kC BK222 3, kC BK222 4, kC BK222 5, kC BK222 6, kC BK222 7, kC BK223 0, kC BK223 1, kC BK223 2⟩ (fun hHeld => ?_)
   clear hK K; refine norm_ (a' := ?_) ?_ ?_
   rotate_left
   ·show Act.put _ (some 10) _ = _
    simp only [Act.put, sA, sB, sC, i64_w, i32_w]
    rfl
   exact norm_ (by simp only [putAll, Act.put, sA, sB, sC]) (hCont (gb228) _ ⟨hHeld, (bK BK222.out), (bK BK223.out), (bK BK224.out), (bK BK228.out), GW228.out, GE228.out, NB222_228.out, NB228_222.out, NB223_228.out, NB228_223.out, NB224_228.out, NB228_224.out, (bH HB.out)⟩)
  ·skip
   refine box_step ?hg (N := 10) ?hd (cs := #[.bool false, .int .u8 0, .int .u16 0, .int .u32 0, .int .u64 0, .string (⟨#[]⟩ : ByteArray), .string (⟨#[]⟩ : ByteArray), .string (⟨#[]⟩ : ByteArray)]) (t := 31) ?hr ?_; (case hd => rfl); (case hg => rfl); (case hr => first | (go_simp; done) | (go_simp; rfl))
   intro gb228 hg w15 hbox hb
   have BK228 := rM hbox; have GW228 := rG HB hg; replace HB := rS HB hb; have GE228 := GW228; have NB222_228 := rN BK222 hg; replace BK222 := rB BK222 hb; have NB228_222 := rY NB222_228; have NB223_228 := rN BK223 hg; replace BK223 := rB BK223 hb; have NB228_223 := rY NB223_228; have NB224_228 := rN BK224 hg; replace BK224 := rB BK224 hb; have NB228_224 := rY NB224_228; clear hb hbox hg; refine hK.out _ _ ⟨kC BK222 0, kC BK222 1, kC BK222 2, kC BK222 3, kC BK222 4, kC BK222 5, kC BK222 6, kC BK222 7, kC BK223 0, kC BK223 1, kC BK223 2⟩ (fun hHeld => ?_)
   clear hK K; refine norm_ (a' := ?_) ?_ ?_
   rotate_left
   ·show Act.put _ (some 10) _ = _
    simp only [Act.put, sA, sB, sC, i64_w, i32_w]
    rfl
   refine one_ (i := 6) (N := some 26) #[true, true, true, true, true, true, true, false, true, false] rfl rfl (one_of HT_.out (by kernel_rfl)) (by decide) (fun K hK => ?_)
   refine goes_ Try.func44 (by kernel_rfl) rfl #[.int .i64 a1_0] (by rfl) rfl rfl (by (try simp only [List.map_toArray, List.map_cons, List.map_nil]); first | done | rfl | (simp only [List.length_drop, List.length_take]; rfl)) ?_
   with_reducible refine (frame_status.calls k a1_0 t227 _ A5.out).mono ?_
   rintro e w' ⟨rfl, ⟨nd, rfl⟩⟩
   refine ⟨_, rfl, ?_⟩
   refine hK.out _ _ ⟨kC BK222 0, kC BK222 1, kC BK222 2, kC BK222 3, kC BK222 4, kC BK222 5, kC BK222 6, kC BK222 7, kC BK223 0, kC BK223 1, kC BK223 2⟩ (fun hHeld => ?_)
   clear hK K; refine norm_ (a' := ?_) ?_ ?_
   rotate_left
   ·show Act.put _ (some 26) _ = _
    simp only [Act.put, sA, sB, sC, i64_w, i32_w]
    rfl
   refine pU HT_ 7 (some 27) ?_ #[true, true, true, true, true, true, true, true, true, false] rfl rfl ?_ ?_ ?_ ?_
   rotate_left
   ·intro w'
    go_simp
    with_reducible rfl
   rotate_left
   ·simp only [Act.put, sA, sB, sC, i64_w, i32_w]
    rfl
   exact norm_ (by simp only [putAll, Act.put, sA, sB, sC]) (hCont (gb228) _ ⟨hHeld, (bK BK222.out), (bK BK223.out), (bK BK224.out), (bK BK228.out), GW228.out, GE228.out, NB222_228.out, NB228_222.out, NB223_228.out, NB228_223.out, NB224_228.out, NB228_224.out, (bH HB.out)⟩)
 rintro gb228 w16 ⟨hS_, h0_, h1_, h2_, h3_, h4_, h5_, h6_, h7_, h8_, h9_, h10_, h11_, h12_⟩
 have n0_ : Aside0 (w16.heap[gb222]? = some (.cells #[.bool a0_0, .int .u8 a0_1, .int .u16 a0_2, .int .u32 a0_3, .int .u64 a0_4, .string a0_5, .string a0_6, .string a0_7] 31 (0, 0))) := ⟨h0_⟩; have n1_ : Aside0 (w16.heap[gb223]? = some (.cells #[.int .i64 a1_0, .slice A1_1 l1_1.length c1_1, .int .u64 a1_2] 61 (0, 0))) := ⟨h1_⟩; have n2_ : Aside0 (w16.heap[gb224]? = some (.cells #[.bool false, .int .u8 0, .int .u16 0, .int .u32 0, .int .u64 0, .string (⟨#[]⟩ : ByteArray), .string (⟨#[]⟩ : ByteArray), .string (⟨#[]⟩ : ByteArray)] 31 (0, 0))) := ⟨h2_⟩; have n3_ : Aside0 (w16.heap[gb228]? = some (.cells #[.bool false, .int .u8 0, .int .u16 0, .int .u32 0, .int .u64 0, .string (⟨#[]⟩ : ByteArray), .string (⟨#[]⟩ : ByteArray), .string (⟨#[]⟩ : ByteArray)] 31 (0, 0))) := ⟨h3_⟩; have n4_ : Aside0 (w.heap.size ≤ gb228) := ⟨h4_⟩; have n5_ : Aside0 (w.heap.size ≤ gb228) := ⟨h5_⟩; have n6_ : Aside0 (gb222 ≠ gb228) := ⟨h6_⟩; have n7_ : Aside0 (gb228 ≠ gb222) := ⟨h7_⟩; have n8_ : Aside0 (gb223 ≠ gb228) := ⟨h8_⟩; have n9_ : Aside0 (gb228 ≠ gb223) := ⟨h9_⟩; have n10_ : Aside0 (gb224 ≠ gb228) := ⟨h10_⟩; have n11_ : Aside0 (gb228 ≠ gb224) := ⟨h11_⟩; have n12_ : Aside0 (Below w.heap.size w w16) := ⟨h12_⟩; clear BK222; clear BK223; clear BK224; clear HB; clear h0_ h1_ h2_ h3_ h4_ h5_ h6_ h7_ h8_ h9_ h10_ h11_ h12_; have BK222 := n0_; have BK223 := n1_; have BK224 := n2_; have BK228 := n3_; have GW228 := n4_; have GE228 := n5_; have NB222_228 := n6_; have NB228_222 := n7_; have NB223_228 := n8_; have NB228_223 := n9_; have NB224_228 := n10_; have NB228_224 := n11_; have HB := n12_; clear n0_ n1_ n2_ n3_ n4_ n5_ n6_ n7_ n8_ n9_ n10_ n11_ n12_; have hHeld : w16.cell? ⟨gb222, 0, none⟩ = some (.bool a0_0) ∧ w16.cell? ⟨gb222, 1, none⟩ = some (.int .u8 a0_1) ∧ w16.cell? ⟨gb222, 2, none⟩ = some (.int .u16 a0_2) ∧ w16.cell? ⟨gb222, 3, none⟩ = some (.int .u32 a0_3) ∧ w16.cell? ⟨gb222, 4, none⟩ = some (.int .u64 a0_4) ∧ w16.cell? ⟨gb222, 5, none⟩ = some (.string a0_5) ∧ w16.cell? ⟨gb222, 6, none⟩ = some (.string a0_6) ∧ w16.cell? ⟨gb222, 7, none⟩ = some (.string a0_7) ∧ w16.cell? ⟨gb223, 0, none⟩ = some (.int .i64 a1_0) ∧ w16.cell? ⟨gb223, 1, none⟩ = some (.slice A1_1 l1_1.length c1_1) ∧ w16.cell? ⟨gb223, 2, none⟩ = some (.int .u64 a1_2) := hS_; refine norm_ (a' := ?_) ?_ ?_
 rotate_left
 ·simp only [putAll, Act.put, sA, sB, sC]
  rfl
 refine one_ (i := 9) (N := none) #[true, true, true, true, true, true, true, true, true, true] rfl rfl (one_of HT_.out (by kernel_rfl)) (by decide) (fun K hK => ?_)
 have hs17 : w16.cell? ⟨gb228, 0, none⟩ = some (.bool false) := (blk_cell BK228.out 0).trans rfl; have hfs17 := blk_frozen BK228.out 0; have hns17_0 := NB222_228.out; have hns17_1 := NB223_228.out; have hns17_2 := NB224_228.out; have hms17_0 := NB228_222.out; have hms17_1 := NB228_223.out; have hms17_2 := NB228_224.out; have hs18 : w16.cell? ⟨gb228, 1, none⟩ = some (.int .u8 0) := (blk_cell BK228.out 1).trans rfl; have hfs18 := blk_frozen BK228.out 1; have hns18_0 := NB222_228.out; have hns18_1 := NB223_228.out; have hns18_2 := NB224_228.out; have hms18_0 := NB228_222.out; have hms18_1 := NB228_223.out; have hms18_2 := NB228_224.out; have hs19 : w16.cell? ⟨gb228, 2, none⟩ = some (.int .u16 0) := (blk_cell BK228.out 2).trans rfl; have hfs19 := blk_frozen BK228.out 2; have hns19_0 := NB222_228.out; have hns19_1 := NB223_228.out; have hns19_2 := NB224_228.out; have hms19_0 := NB228_222.out; have hms19_1 := NB228_223.out; have hms19_2 := NB228_224.out; have hs20 : w16.cell? ⟨gb228, 3, none⟩ = some (.int .u32 0) := (blk_cell BK228.out 3).trans rfl; have hfs20 := blk_frozen BK228.out 3; have hns20_0 := NB222_228.out; have hns20_1 := NB223_228.out; have hns20_2 := NB224_228.out; have hms20_0 := NB228_222.out; have hms20_1 := NB228_223.out; have hms20_2 := NB228_224.out; have hs21 : w16.cell? ⟨gb228, 4, none⟩ = some (.int .u64 0) := (blk_cell BK228.out 4).trans rfl; have hfs21 := blk_frozen BK228.out 4; have hns21_0 := NB222_228.out; have hns21_1 := NB223_228.out; have hns21_2 := NB224_228.out; have hms21_0 := NB228_222.out; have hms21_1 := NB228_223.out; have hms21_2 := NB228_224.out; have hs22 : w16.cell? ⟨gb228, 5, none⟩ = some (.string (⟨#[]⟩ : ByteArray)) := (blk_cell BK228.out 5).trans rfl; have hfs22 := blk_frozen BK228.out 5; have hns22_0 := NB222_228.out; have hns22_1 := NB223_228.out; have hns22_2 := NB224_228.out; have hms22_0 := NB228_222.out; have hms22_1 := NB228_223.out; have hms22_2 := NB228_224.out; have hs23 : w16.cell? ⟨gb228, 6, none⟩ = some (.string (⟨#[]⟩ : ByteArray)) := (blk_cell BK228.out 6).trans rfl; have hfs23 := blk_frozen BK228.out 6; have hns23_0 := NB222_228.out; have hns23_1 := NB223_228.out; have hns23_2 := NB224_228.out; have hms23_0 := NB228_222.out; have hms23_1 := NB228_223.out; have hms23_2 := NB228_224.out; have hs24 : w16.cell? ⟨gb228, 7, none⟩ = some (.string (⟨#[]⟩ : ByteArray)) := (blk_cell BK228.out 7).trans rfl; have hfs24 := blk_frozen BK228.out 7; have hns24_0 := NB222_228.out; have hns24_1 := NB223_228.out; have hns24_2 := NB224_228.out; have hms24_0 := NB228_222.out; have hms24_1 := NB228_223.out; have hms24_2 := NB228_224.out; refine skip_ (w1 := ?_) (by rfl) rfl ?_ ?_
 rotate_left
 ·go_simp
  rfl
 refine hK.out _ _ ⟨(kF hHeld.1), (kF hHeld.2.1), (kF hHeld.2.2.1), (kF hHeld.2.2.2.1), (kF hHeld.2.2.2.2.1), (kF hHeld.2.2.2.2.2.1), (kF hHeld.2.2.2.2.2.2.1), (kF hHeld.2.2.2.2.2.2.2.1), (kF hHeld.2.2.2.2.2.2.2.2.1), (kF hHeld.2.2.2.2.2.2.2.2.2.1), (kF hHeld.2.2.2.2.2.2.2.2.2.2)⟩ (fun hHeld => ?_)
 clear hK K; refine done_ (done_of HT_.out (by kernel_rfl)) ?_
 go_upto_region 3 with (fail)
 go_cut [11] (fun v11 wc => ∃ (kq : Nat) (x11_5 : Bool), v11 = .bool x11_5 ∧ Aside0 (frame_Reply.j0 kq a2 t225 t226 x11_5 a0_0 a0_1 a0_2 a0_3 a0_4 a0_5 a0_6 a0_7 a1_0 l1_1 a1_2 true a0_1 t227 a0_3 0 (⟨#[]⟩ : ByteArray) (⟨#[]⟩ : ByteArray) (⟨#[]⟩ : ByteArray) = some (r1, r2, r3, r4, r5, r6, r7, r8, r9)) ∧ Aside0 (kq ≤ k) ∧ Aside0 (wc.heap[gb222]? = some (.cells #[.bool a0_0, .int .u8 a0_1, .int .u16 a0_2, .int .u32 a0_3, .int .u64 a0_4, .string a0_5, .string a0_6, .string a0_7] 31 (0, 0))) ∧ Aside0 (wc.heap[gb223]? = some (.cells #[.int .i64 a1_0, (.slice A1_1 l1_1.length c1_1), .int .u64 a1_2] 61 (0, 0))) ∧ Aside0 (wc.heap[gb224]? = some (.cells #[.bool false, .int .u8 0, .int .u16 0, .int .u32 0, .int .u64 0, .string (⟨#[]⟩ : ByteArray), .string (⟨#[]⟩ : ByteArray), .string (⟨#[]⟩ : ByteArray)] 31 (0, 0))) ∧ Aside0 (wc.heap[gb228]? = some (.cells #[.bool true, .int .u8 a0_1, .int .u16 t227, .int .u32 a0_3, .int .u64 0, .string (⟨#[]⟩ : ByteArray), .string (⟨#[]⟩ : ByteArray), .string (⟨#[]⟩ : ByteArray)] 31 (0, 0))) ∧ Aside0 (Below w.heap.size w wc))
 case first =>
  have H := HC6.out; clear HC6
  by_cases c25 : a1_0 = 1
  ·rw [if_pos c25] at H; have c25b0 : (a1_0 == 1) = true := beq_iff_eq.mpr c25; have c25b1 : (a1_0 != 1) = false := bne_eq_false_iff_eq.mpr c25; clear c25
   (first | rw [c25b0] | (simp only [i64_w, i32_w]; rw [c25b0]) | skip)
   have H' := Aside0.mk H; clear H; have hnb26 := rP NB223_222 NB222_223; have hnb27 := rP NB223_224 NB224_223; have hnb28 := rP NB223_228 NB228_223; obtain ⟨hcz29, hfz29⟩ := d3 BK223; go_wp2
   go_meet
   case rel => exact ⟨_, (decide ((l1_1.length : Int) > 0)), (by first | rfl | (simp; done) | (simp [*]; done)), H', ⟨by first | omega | exact Nat.le_refl _⟩, ⟨bK BK222.out⟩, ⟨bK BK223.out⟩, ⟨bK BK224.out⟩, ⟨bV BK228.out⟩, ⟨bH HB.out⟩⟩
  ·rw [if_neg c25] at H; have c25b0 : (a1_0 == 1) = false := beq_eq_false_iff_ne.mpr c25; have c25b1 : (a1_0 != 1) = true := bne_iff_ne.mpr c25
   (first | rw [c25b0] | (simp only [i64_w, i32_w]; rw [c25b0]) | skip)
   have H' := Aside0.mk H; clear H; have hnb30 := rP NB223_222 NB222_223; have hnb31 := rP NB223_224 NB224_223; have hnb32 := rP NB223_228 NB228_223; obtain ⟨hcz33, hfz33⟩ := d3 BK223; go_wp2
   go_meet
   case rel => exact ⟨_, (false), (by first | rfl | (simp; done) | (simp [*]; done)), H', ⟨by first | omega | exact Nat.le_refl _⟩, ⟨bK BK222.out⟩, ⟨bK BK223.out⟩, ⟨bK BK224.out⟩, ⟨bV BK228.out⟩, ⟨bH HB.out⟩⟩
 case rest =>
  clear HC6; (try clear c25); (try clear c25b0); (try clear c25b1); (try clear hcz12); (try clear hcz29); (try clear hcz33); (try clear hfz12); (try clear hfz29); (try clear hfz33); obtain ⟨kq, x11_5, rfl, HA, HJ5, BK222, BK223, BK224, BK228, HB⟩ := hcut; cases kq with
  | zero => exact absurd HA.out (by simp [frame_Reply.j0])
  | succ kj5 =>
   have H := HA.out; clear HA; simp only [frame_Reply.j0] at H; have HC34 := Aside0.mk H; clear H
   go_upto_if 37 with (fail)
   go_cut [] (fun wc => ∃ (kq : Nat) (z4 : Bool) (z5 : Int) (z6 : Int) (z7 : Int) (z8 : Int) (z9 : ByteArray) (za : ByteArray) (zb : ByteArray), Aside0 (frame_Reply.j3 kq a2 t225 x11_5 a0_0 a0_1 a0_2 a0_3 a0_4 a0_5 a0_6 a0_7 a1_0 l1_1 a1_2 true a0_1 t227 a0_3 0 (⟨#[]⟩ : ByteArray) (⟨#[]⟩ : ByteArray) (⟨#[]⟩ : ByteArray) = some (r1, r2, r3, r4, r5, r6, r7, r8, r9)) ∧ Aside0 (kq ≤ kj5) ∧ Aside0 (wc.heap[gb222]? = some (.cells #[.bool a0_0, .int .u8 a0_1, .int .u16 a0_2, .int .u32 a0_3, .int .u64 a0_4, .string a0_5, .string a0_6, .string a0_7] 31 (0, 0))) ∧ Aside0 (wc.heap[gb223]? = some (.cells #[.int .i64 a1_0, (.slice A1_1 l1_1.length c1_1), .int .u64 a1_2] 61 (0, 0))) ∧ Aside0 (wc.heap[gb224]? = some (.cells #[.bool z4, .int .u8 z5, .int .u16 z6, .int .u32 z7, .int .u64 z8, .string z9, .string za, .string zb] 31 (0, 0))) ∧ Aside0 (wc.heap[gb228]? = some (.cells #[.bool true, .int .u8 a0_1, .int .u16 t227, .int .u32 a0_3, .int .u64 0, .string (⟨#[]⟩ : ByteArray), .string (⟨#[]⟩ : ByteArray), .string (⟨#[]⟩ : ByteArray)] 31 (0, 0))) ∧ Aside0 (Below w.heap.size w wc))
   case first =>
    have H := HC34.out; clear HC34
    by_cases c35 : t226 = true
    ·subst c35; rw [if_pos rfl] at H; have HC36 := Aside0.mk H; clear H
     go_upto_region 5 with (fail)
     go_cut [12] (fun v12 wc => ∃ (kq : Nat) (x12_35 : Bool), v12 = .bool x12_35 ∧ Aside0 (frame_Reply.j1 kq a2 t225 x11_5 x12_35 a0_0 a0_1 a0_2 a0_3 a0_4 a0_5 a0_6 a0_7 a1_0 l1_1 a1_2 true a0_1 t227 a0_3 0 (⟨#[]⟩ : ByteArray) (⟨#[]⟩ : ByteArray) (⟨#[]⟩ : ByteArray) = some (r1, r2, r3, r4, r5, r6, r7, r8, r9)) ∧ Aside0 (kq ≤ kj5) ∧ Aside0 (wc.heap[gb222]? = some (.cells #[.bool a0_0, .int .u8 a0_1, .int .u16 a0_2, .int .u32 a0_3, .int .u64 a0_4, .string a0_5, .string a0_6, .string a0_7] 31 (0, 0))) ∧ Aside0 (wc.heap[gb223]? = some (.cells #[.int .i64 a1_0, (.slice A1_1 l1_1.length c1_1), .int .u64 a1_2] 61 (0, 0))) ∧ Aside0 (wc.heap[gb224]? = some (.cells #[.bool false, .int .u8 0, .int .u16 0, .int .u32 0, .int .u64 0, .string (⟨#[]⟩ : ByteArray), .string (⟨#[]⟩ : ByteArray), .string (⟨#[]⟩ : ByteArray)] 31 (0, 0))) ∧ Aside0 (wc.heap[gb228]? = some (.cells #[.bool true, .int .u8 a0_1, .int .u16 t227, .int .u32 a0_3, .int .u64 0, .string (⟨#[]⟩ : ByteArray), .string (⟨#[]⟩ : ByteArray), .string (⟨#[]⟩ : ByteArray)] 31 (0, 0))) ∧ Aside0 (Below w.heap.size w wc))
     case first =>
      have H := HC36.out; clear HC36
      by_cases c37 : a1_0 = 1
      ·rw [if_pos c37] at H; have c37b0 : (a1_0 == 1) = true := beq_iff_eq.mpr c37; have c37b1 : (a1_0 != 1) = false := bne_eq_false_iff_eq.mpr c37; clear c37
       (first | rw [c37b0] | (simp only [i64_w, i32_w]; rw [c37b0]) | skip)
       have H' := Aside0.mk H; clear H; have hnb38 := rP NB223_222 NB222_223; have hnb39 := rP NB223_224 NB224_223; have hnb40 := rP NB223_228 NB228_223; obtain ⟨hcz41, hfz41⟩ := d3 BK223; go_wp2
       go_meet
       case rel => exact ⟨_, (!x11_5), (by first | rfl | (simp; done) | (simp [*]; done)), H', ⟨by have := HJ5.out; first | omega | exact Nat.le_refl _⟩, ⟨bK BK222.out⟩, ⟨bK BK223.out⟩, ⟨bK BK224.out⟩, ⟨bK BK228.out⟩, ⟨bH HB.out⟩⟩
      ·rw [if_neg c37] at H; have c37b0 : (a1_0 == 1) = false := beq_eq_false_iff_ne.mpr c37; have c37b1 : (a1_0 != 1) = true := bne_iff_ne.mpr c37
       (first | rw [c37b0] | (simp only [i64_w, i32_w]; rw [c37b0]) | skip)
       have H' := Aside0.mk H; clear H; have hnb42 := rP NB223_222 NB222_223; have hnb43 := rP NB223_224 NB224_223; have hnb44 := rP NB223_228 NB228_223; obtain ⟨hcz45, hfz45⟩ := d3 BK223; go_wp2
       go_meet
       case rel => exact ⟨_, (false), (by first | rfl | (simp; done) | (simp [*]; done)), H', ⟨by have := HJ5.out; first | omega | exact Nat.le_refl _⟩, ⟨bK BK222.out⟩, ⟨bK BK223.out⟩, ⟨bK BK224.out⟩, ⟨bK BK228.out⟩, ⟨bH HB.out⟩⟩
     case rest =>
      clear HC36; (try clear c25); (try clear c25b0); (try clear c25b1); (try clear c35); (try clear c37); (try clear c37b0); (try clear c37b1); (try clear hcz12); (try clear hcz29); (try clear hcz33); (try clear hcz41); (try clear hcz45); (try clear hfz12); (try clear hfz29); (try clear hfz33); (try clear hfz41); (try clear hfz45); obtain ⟨kq, x12_35, rfl, HA, HJ35, BK222, BK223, BK224, BK228, HB⟩ := hcut; cases kq with
      | zero => exact absurd HA.out (by simp [frame_Reply.j1])
      | succ kj35 =>
       have H := HA.out; clear HA; simp only [frame_Reply.j1] at H; have HC46 := Aside0.mk H; clear H
       go_upto_region 6 with (fail)
       go_cut [59] (fun v59 wc => ∃ (kq : Nat) (x59_45 : Bool), v59 = .bool x59_45 ∧ Aside0 (frame_Reply.j2 kq a2 t225 x11_5 x59_45 a0_0 a0_1 a0_2 a0_3 a0_4 a0_5 a0_6 a0_7 a1_0 l1_1 a1_2 true a0_1 t227 a0_3 0 (⟨#[]⟩ : ByteArray) (⟨#[]⟩ : ByteArray) (⟨#[]⟩ : ByteArray) = some (r1, r2, r3, r4, r5, r6, r7, r8, r9)) ∧ Aside0 (kq ≤ kj35) ∧ Aside0 (wc.heap[gb222]? = some (.cells #[.bool a0_0, .int .u8 a0_1, .int .u16 a0_2, .int .u32 a0_3, .int .u64 a0_4, .string a0_5, .string a0_6, .string a0_7] 31 (0, 0))) ∧ Aside0 (wc.heap[gb223]? = some (.cells #[.int .i64 a1_0, (.slice A1_1 l1_1.length c1_1), .int .u64 a1_2] 61 (0, 0))) ∧ Aside0 (wc.heap[gb224]? = some (.cells #[.bool false, .int .u8 0, .int .u16 0, .int .u32 0, .int .u64 0, .string (⟨#[]⟩ : ByteArray), .string (⟨#[]⟩ : ByteArray), .string (⟨#[]⟩ : ByteArray)] 31 (0, 0))) ∧ Aside0 (wc.heap[gb228]? = some (.cells #[.bool true, .int .u8 a0_1, .int .u16 t227, .int .u32 a0_3, .int .u64 0, .string (⟨#[]⟩ : ByteArray), .string (⟨#[]⟩ : ByteArray), .string (⟨#[]⟩ : ByteArray)] 31 (0, 0))) ∧ Aside0 (Below w.heap.size w wc))
       case first =>
        have H := HC46.out; clear HC46; replace H := Option.bind_eq_some_iff.mp H; obtain ⟨t229, A470, H⟩ := H; (try dsimp only at H); have A47 := Aside0.mk A470; clear A470
        by_cases c48 : t229 = true
        ·subst c48; rw [if_pos rfl] at H
         by_cases c49 : x12_35 = true
         ·subst c49; rw [if_pos rfl] at H; have H' := Aside0.mk H; clear H
          go_wp2_with (first | ((with_reducible refine gate_callee (f := 45) rfl ?_); refine gL (some 46) rfl rfl Try.func45 #[.int .i64 t225] rfl ?_; (with_reducible refine (frame_reads.calls t225 true _ A47.out).mono ?_); rintro e w' ⟨rfl, ⟨nd, rfl⟩⟩; refine ⟨_, rfl, ?_⟩))
          go_meet
          case rel => exact ⟨_, (true), (by first | rfl | (simp; done) | (simp [*]; done)), H', ⟨by have := HJ5.out; have := HJ35.out; first | omega | exact Nat.le_refl _⟩, ⟨bK BK222.out⟩, ⟨bK BK223.out⟩, ⟨bK BK224.out⟩, ⟨bK BK228.out⟩, ⟨bH HB.out⟩⟩
         ·replace c49 := Bool.eq_false_iff.mpr c49; subst c49; rw [if_neg (show ¬ (false = true) by decide)] at H; replace H := Option.bind_eq_some_iff.mp H; obtain ⟨t230, A500, H⟩ := H; (try dsimp only at H); have A50 := Aside0.mk A500; clear A500
          by_cases c51 : t230 = true
          ·subst c51; rw [if_pos rfl] at H; have H' := Aside0.mk H; clear H
           go_wp2_with (first | ((with_reducible refine gate_callee (f := 45) rfl ?_); refine gL (some 46) rfl rfl Try.func45 #[.int .i64 t225] rfl ?_; (with_reducible refine (frame_reads.calls t225 true _ A47.out).mono ?_); rintro e w' ⟨rfl, ⟨nd, rfl⟩⟩; refine ⟨_, rfl, ?_⟩) | (go_at_call 45; (with_reducible refine (frame_reads.calls t225 true _ A50.out).mono ?_); rintro e w' ⟨rfl, ⟨nd, rfl⟩⟩))
           go_meet
           case rel => exact ⟨_, (false), (by first | rfl | (simp; done) | (simp [*]; done)), H', ⟨by have := HJ5.out; have := HJ35.out; first | omega | exact Nat.le_refl _⟩, ⟨bK BK222.out⟩, ⟨bK BK223.out⟩, ⟨bK BK224.out⟩, ⟨bK BK228.out⟩, ⟨bH HB.out⟩⟩
          ·replace c51 := Bool.eq_false_iff.mpr c51; subst c51; rw [if_neg (show ¬ (false = true) by decide)] at H; have H' := Aside0.mk H; clear H
           go_wp2_with (first | ((with_reducible refine gate_callee (f := 45) rfl ?_); refine gL (some 46) rfl rfl Try.func45 #[.int .i64 t225] rfl ?_; (with_reducible refine (frame_reads.calls t225 true _ A47.out).mono ?_); rintro e w' ⟨rfl, ⟨nd, rfl⟩⟩; refine ⟨_, rfl, ?_⟩) | (go_at_call 45; (with_reducible refine (frame_reads.calls t225 false _ A50.out).mono ?_); rintro e w' ⟨rfl, ⟨nd, rfl⟩⟩; have hnb52 := rP NB228_222 NB222_228; have hnb53 := rP NB228_223 NB223_228; have hnb54 := rP NB228_224 NB224_228; obtain ⟨hcz55, hfz55⟩ := d8 BK228))
           go_meet
           case rel => exact ⟨_, ((t227 == 0)), (by first | rfl | (simp; done) | (simp [*]; done)), H', ⟨by have := HJ5.out; have := HJ35.out; first | omega | exact Nat.le_refl _⟩, ⟨bK BK222.out⟩, ⟨bK BK223.out⟩, ⟨bK BK224.out⟩, ⟨bK BK228.out⟩, ⟨bH HB.out⟩⟩
        ·replace c48 := Bool.eq_false_iff.mpr c48; subst c48; rw [if_neg (show ¬ (false = true) by decide)] at H; replace H := Option.bind_eq_some_iff.mp H; obtain ⟨t231, A560, H⟩ := H; (try dsimp only at H); have A56 := Aside0.mk A560; clear A560
         by_cases c57 : t231 = true
         ·subst c57; rw [if_pos rfl] at H; have H' := Aside0.mk H; clear H
          go_wp2_with (first | ((with_reducible refine gate_callee (f := 45) rfl ?_); refine gL (some 46) rfl rfl Try.func45 #[.int .i64 t225] rfl ?_; (with_reducible refine (frame_reads.calls t225 false _ A47.out).mono ?_); rintro e w' ⟨rfl, ⟨nd, rfl⟩⟩; refine ⟨_, rfl, ?_⟩) | (go_at_call 45; (with_reducible refine (frame_reads.calls t225 true _ A56.out).mono ?_); rintro e w' ⟨rfl, ⟨nd, rfl⟩⟩))
          go_meet
          case rel => exact ⟨_, (false), (by first | rfl | (simp; done) | (simp [*]; done)), H', ⟨by have := HJ5.out; have := HJ35.out; first | omega | exact Nat.le_refl _⟩, ⟨bK BK222.out⟩, ⟨bK BK223.out⟩, ⟨bK BK224.out⟩, ⟨bK BK228.out⟩, ⟨bH HB.out⟩⟩
         ·replace c57 := Bool.eq_false_iff.mpr c57; subst c57; rw [if_neg (show ¬ (false = true) by decide)] at H; have H' := Aside0.mk H; clear H
          go_wp2_with (first | ((with_reducible refine gate_callee (f := 45) rfl ?_); refine gL (some 46) rfl rfl Try.func45 #[.int .i64 t225] rfl ?_; (with_reducible refine (frame_reads.calls t225 false _ A47.out).mono ?_); rintro e w' ⟨rfl, ⟨nd, rfl⟩⟩; refine ⟨_, rfl, ?_⟩) | (go_at_call 45; (with_reducible refine (frame_reads.calls t225 false _ A56.out).mono ?_); rintro e w' ⟨rfl, ⟨nd, rfl⟩⟩; have hnb58 := rP NB228_222 NB222_228; have hnb59 := rP NB228_223 NB223_228; have hnb60 := rP NB228_224 NB224_228; obtain ⟨hcz61, hfz61⟩ := d8 BK228))
          go_meet
          case rel => exact ⟨_, ((t227 == 0)), (by first | rfl | (simp; done) | (simp [*]; done)), H', ⟨by have := HJ5.out; have := HJ35.out; first | omega | exact Nat.le_refl _⟩, ⟨bK BK222.out⟩, ⟨bK BK223.out⟩, ⟨bK BK224.out⟩, ⟨bK BK228.out⟩, ⟨bH HB.out⟩⟩
       case rest =>
        clear HC46; (try clear c25); (try clear c25b0); (try clear c25b1); (try clear c35); (try clear c37); (try clear c37b0); (try clear c37b1); (try clear c48); (try clear c49); (try clear c51); (try clear c57); (try clear hcz12); (try clear hcz29); (try clear hcz33); (try clear hcz41); (try clear hcz45); (try clear hcz55); (try clear hcz61); (try clear hfz12); (try clear hfz29); (try clear hfz33); (try clear hfz41); (try clear hfz45); (try clear hfz55); (try clear hfz61); obtain ⟨kq, x59_45, rfl, HA, HJ45, BK222, BK223, BK224, BK228, HB⟩ := hcut; cases kq with
        | zero => exact absurd HA.out (by simp [frame_Reply.j2])
        | succ kj45 =>
         have H := HA.out; clear HA; simp only [frame_Reply.j2] at H
         by_cases c62 : x59_45 = true
         ·subst c62; rw [if_pos rfl] at H; simp only [Option.some.injEq, Prod.mk.injEq] at H; obtain ⟨rfl, rfl, rfl, rfl, rfl, rfl, rfl, rfl, rfl⟩ := H; have hnb63 := rP NB224_222 NB222_224; have hnb64 := rP NB224_223 NB223_224; have hnb65 := rP NB224_228 NB228_224; obtain ⟨hcz66, hfz66⟩ := d8 BK224; go_wp2; refine bodyPost_ret (results_ct rfl _ _ gb224 31 #[.bool false, .int .u8 0, .int .u16 0, .int .u32 0, .int .u64 0, .string (⟨#[]⟩ : ByteArray), .string (⟨#[]⟩ : ByteArray), .string (⟨#[]⟩ : ByteArray)] (0, 0) _ rfl (bV BK224.out) Try.underlying31 rfl (by kernel_rfl)) rfl ?_
          exact ⟨xR, bH HB.out⟩
         ·replace c62 := Bool.eq_false_iff.mpr c62; subst c62; rw [if_neg (show ¬ (false = true) by decide)] at H; have H' := Aside0.mk H; clear H; go_wp2
          go_meet
          case rel => exact ⟨_, (false), (0), (0), (0), (0), ((⟨#[]⟩ : ByteArray)), ((⟨#[]⟩ : ByteArray)), ((⟨#[]⟩ : ByteArray)), H', ⟨by have := HJ5.out; have := HJ35.out; have := HJ45.out; first | omega | exact Nat.le_refl _⟩, ⟨bK BK222.out⟩, ⟨bK BK223.out⟩, ⟨bK BK224.out⟩, ⟨bK BK228.out⟩, ⟨bH HB.out⟩⟩
    ·replace c35 := Bool.eq_false_iff.mpr c35; subst c35; rw [if_neg (show ¬ (false = true) by decide)] at H; have H' := Aside0.mk H; clear H; go_wp2
     go_meet
     case rel => exact ⟨_, (false), (0), (0), (0), (0), ((⟨#[]⟩ : ByteArray)), ((⟨#[]⟩ : ByteArray)), ((⟨#[]⟩ : ByteArray)), H', ⟨by have := HJ5.out; first | omega | exact Nat.le_refl _⟩, ⟨bK BK222.out⟩, ⟨bK BK223.out⟩, ⟨bK BK224.out⟩, ⟨bK BK228.out⟩, ⟨bH HB.out⟩⟩
   case rest =>
    clear HC34; (try clear c25); (try clear c25b0); (try clear c25b1); (try clear c35); (try clear c37); (try clear c37b0); (try clear c37b1); (try clear c48); (try clear c49); (try clear c51); (try clear c57); (try clear c62); (try clear hcz12); (try clear hcz29); (try clear hcz33); (try clear hcz41); (try clear hcz45); (try clear hcz55); (try clear hcz61); (try clear hcz66); (try clear hfz12); (try clear hfz29); (try clear hfz33); (try clear hfz41); (try clear hfz45); (try clear hfz55); (try clear hfz61); (try clear hfz66); obtain ⟨kq, z4, z5, z6, z7, z8, z9, za, zb, HA, HJ33, BK222, BK223, BK224, BK228, HB⟩ := hcut; cases kq with
    | zero => exact absurd HA.out (by simp [frame_Reply.j3])
    | succ kj33 =>
     have H := HA.out; clear HA; simp only [frame_Reply.j3] at H; have HC67 := Aside0.mk H; clear H
     go_upto_block 0 with (fail)
     go_cut [] (fun wc => ∃ (kq : Nat) (z0 : Int) (z1 : Int) (z2 : ByteArray) (zc : ByteArray) (z3 : ByteArray), Aside0 (frame_Reply.j4 kq t225 true a0_1 z0 a0_3 z1 z2 zc z3 = some (r1, r2, r3, r4, r5, r6, r7, r8, r9)) ∧ Aside0 (kq ≤ kj33) ∧ Aside0 (wc.heap[gb222]? = some (.cells #[.bool a0_0, .int .u8 a0_1, .int .u16 a0_2, .int .u32 a0_3, .int .u64 a0_4, .string a0_5, .string a0_6, .string a0_7] 31 (0, 0))) ∧ Aside0 (wc.heap[gb223]? = some (.cells #[.int .i64 a1_0, (.slice A1_1 l1_1.length c1_1), .int .u64 a1_2] 61 (0, 0))) ∧ Aside0 (wc.heap[gb224]? = some (.cells #[.bool z4, .int .u8 z5, .int .u16 z6, .int .u32 z7, .int .u64 z8, .string z9, .string za, .string zb] 31 (0, 0))) ∧ Aside0 (wc.heap[gb228]? = some (.cells #[.bool true, .int .u8 a0_1, .int .u16 z0, .int .u32 a0_3, .int .u64 z1, .string z2, .string zc, .string z3] 31 (0, 0))) ∧ Aside0 (Below w.heap.size w wc))
     case first =>
      have H := HC67.out; clear HC67
      by_cases c68 : x11_5 = true
      ·subst c68; rw [if_pos rfl] at H
       by_cases c69 : 0 < (l1_1.length : Int)
       ·rw [if_pos c69] at H; have c69b0 : decide (0 < (l1_1.length : Int)) = true := decide_eq_true c69; have c69b1 : decide (0 < l1_1.length) = true := decide_eq_true (by omega); clear c69
        (first | rw [c69b0] | (simp only [i64_w, i32_w]; rw [c69b0]) | skip)
        replace H := Option.bind_eq_some_iff.mp H; obtain ⟨t234, A700, H⟩ := H; (try dsimp only at H); have A70 := Aside0.mk A700; clear A700; have H' := Aside0.mk H; clear H; have hnb71 := rP NB223_222 NB222_223; have hnb72 := rP NB223_224 NB224_223; have hnb73 := rP NB223_228 NB228_223; obtain ⟨hcz74, hfz74⟩ := d3 BK223; have p232 : 0 ≤ (0 : Int) := (by omega); have q232 : 0 < (l1_1.length : Int) := of_decide_eq_true (by first | (with_reducible assumption) | assumption)
        obtain ⟨ad232, e232, hx232_0, hx232_1, hx232_2, hx232_3⟩ := at_T102 HR1_1.out 0 p232 q232; cases e232; have qi232 : (0 < l1_1.length) = True := eq_true (by omega)
        (try rw [show ((0 : Int)).toNat = 0 from rfl] at hx232_0)
        (try rw [show 0 * 4 = 0 from rfl] at hx232_0)
        (try rw [Addr.add_zero'] at hx232_0)
        (try rw [show ((0 : Int)).toNat = 0 from rfl] at hx232_1)
        (try rw [show 0 * 4 = 0 from rfl] at hx232_1)
        (try rw [Addr.add_zero'] at hx232_1)
        (try rw [show ((0 : Int)).toNat = 0 from rfl] at hx232_2)
        (try rw [show 0 * 4 = 0 from rfl] at hx232_2)
        (try rw [Addr.add_zero'] at hx232_2)
        (try rw [show ((0 : Int)).toNat = 0 from rfl] at hx232_3)
        (try rw [show 0 * 4 = 0 from rfl] at hx232_3)
        (try rw [Addr.add_zero'] at hx232_3)
        replace hx232_0 := (HB.out.cell (World.block_lt_of_cell? w _ hx232_0)).trans hx232_0; replace hx232_1 := (HB.out.cell (World.block_lt_of_cell? w _ hx232_1)).trans hx232_1; replace hx232_2 := (HB.out.cell (World.block_lt_of_cell? w _ hx232_2)).trans hx232_2; replace hx232_3 := (HB.out.cell (World.block_lt_of_cell? w _ hx232_3)).trans hx232_3; replace p232 := eq_true p232; replace q232 := eq_true q232
        try go_wp2_with (first | ((with_reducible refine gate_dst (N := 13) rfl ?_); (try (refine gate_guard (by rfl) ?_; dsimp only)); refine bE 13 #[.string (⟨#[]⟩ : ByteArray), .int .u32 0, .string (⟨#[]⟩ : ByteArray), .int .u64 0] 102 rfl rfl ?_; intro gb233 hg w75 hbox hb; have BK233 := rM hbox; have GW233 := rG HB hg; replace HB := rS HB hb; have GE233 := GW233; have NB222_233 := rN BK222 hg; replace BK222 := rB BK222 hb; have NB233_222 := rY NB222_233; have NB223_233 := rN BK223 hg; replace BK223 := rB BK223 hb; have NB233_223 := rY NB223_233; have NB224_233 := rN BK224 hg; replace BK224 := rB BK224 hb; have NB233_224 := rY NB224_233; have NB228_233 := rN BK228 hg; replace BK228 := rB BK228 hb; have NB233_228 := rY NB228_233; clear hb hbox hg; have hnb76 := rP NB233_222 NB222_233; have hnb77 := rP NB233_223 NB223_233; have hnb78 := rP NB233_224 NB224_233; have hnb79 := rP NB233_228 NB228_233; obtain ⟨hcz80, hfz80⟩ := d4 BK233))
        have n0_ : Aside0 (((((w75.setCell ⟨gb233, 0, none⟩ (.string ((rd_T102 l1_1 0).f0))).setCell ⟨gb233, 1, none⟩ (.int .u32 ((rd_T102 l1_1 0).f1))).setCell ⟨gb233, 2, none⟩ (.string ((rd_T102 l1_1 0).f2))).setCell ⟨gb233, 3, none⟩ (.int .u64 ((rd_T102 l1_1 0).f3))).heap[gb222]? = some (.cells #[.bool a0_0, .int .u8 a0_1, .int .u16 a0_2, .int .u32 a0_3, .int .u64 a0_4, .string a0_5, .string a0_6, .string a0_7] 31 (0, 0))) := ⟨bK BK222.out⟩; have n1_ : Aside0 (((((w75.setCell ⟨gb233, 0, none⟩ (.string ((rd_T102 l1_1 0).f0))).setCell ⟨gb233, 1, none⟩ (.int .u32 ((rd_T102 l1_1 0).f1))).setCell ⟨gb233, 2, none⟩ (.string ((rd_T102 l1_1 0).f2))).setCell ⟨gb233, 3, none⟩ (.int .u64 ((rd_T102 l1_1 0).f3))).heap[gb223]? = some (.cells #[.int .i64 a1_0, .slice (some ad232) l1_1.length c1_1, .int .u64 a1_2] 61 (0, 0))) := ⟨bK BK223.out⟩
        have n2_ : Aside0 (((((w75.setCell ⟨gb233, 0, none⟩ (.string ((rd_T102 l1_1 0).f0))).setCell ⟨gb233, 1, none⟩ (.int .u32 ((rd_T102 l1_1 0).f1))).setCell ⟨gb233, 2, none⟩ (.string ((rd_T102 l1_1 0).f2))).setCell ⟨gb233, 3, none⟩ (.int .u64 ((rd_T102 l1_1 0).f3))).heap[gb224]? = some (.cells #[.bool z4, .int .u8 z5, .int .u16 z6, .int .u32 z7, .int .u64 z8, .string z9, .string za, .string zb] 31 (0, 0))) := ⟨bK BK224.out⟩; have n3_ : Aside0 (((((w75.setCell ⟨gb233, 0, none⟩ (.string ((rd_T102 l1_1 0).f0))).setCell ⟨gb233, 1, none⟩ (.int .u32 ((rd_T102 l1_1 0).f1))).setCell ⟨gb233, 2, none⟩ (.string ((rd_T102 l1_1 0).f2))).setCell ⟨gb233, 3, none⟩ (.int .u64 ((rd_T102 l1_1 0).f3))).heap[gb228]? = some (.cells #[.bool true, .int .u8 a0_1, .int .u16 t227, .int .u32 a0_3, .int .u64 0, .string (⟨#[]⟩ : ByteArray), .string (⟨#[]⟩ : ByteArray), .string (⟨#[]⟩ : ByteArray)] 31 (0, 0))) := ⟨bK BK228.out⟩
        have n4_ : Aside0 (((((w75.setCell ⟨gb233, 0, none⟩ (.string ((rd_T102 l1_1 0).f0))).setCell ⟨gb233, 1, none⟩ (.int .u32 ((rd_T102 l1_1 0).f1))).setCell ⟨gb233, 2, none⟩ (.string ((rd_T102 l1_1 0).f2))).setCell ⟨gb233, 3, none⟩ (.int .u64 ((rd_T102 l1_1 0).f3))).heap[gb233]? = some (.cells #[.string ((rd_T102 l1_1 0).f0), .int .u32 ((rd_T102 l1_1 0).f1), .string ((rd_T102 l1_1 0).f2), .int .u64 ((rd_T102 l1_1 0).f3)] 102 (0, 0))) := ⟨bV BK233.out⟩; have n5_ : Aside0 (Below w.heap.size w ((((w75.setCell ⟨gb233, 0, none⟩ (.string ((rd_T102 l1_1 0).f0))).setCell ⟨gb233, 1, none⟩ (.int .u32 ((rd_T102 l1_1 0).f1))).setCell ⟨gb233, 2, none⟩ (.string ((rd_T102 l1_1 0).f2))).setCell ⟨gb233, 3, none⟩ (.int .u64 ((rd_T102 l1_1 0).f3)))) := ⟨bH HB.out⟩
        (try clear BK222)
        (try clear BK223)
        (try clear BK224)
        (try clear BK228)
        (try clear BK233)
        (try clear HB)
        generalize ((((w75.setCell ⟨gb233, 0, none⟩ (.string ((rd_T102 l1_1 0).f0))).setCell ⟨gb233, 1, none⟩ (.int .u32 ((rd_T102 l1_1 0).f1))).setCell ⟨gb233, 2, none⟩ (.string ((rd_T102 l1_1 0).f2))).setCell ⟨gb233, 3, none⟩ (.int .u64 ((rd_T102 l1_1 0).f3))) = w81 at n0_ n1_ n2_ n3_ n4_ n5_ ⊢; have BK222 := n0_; have BK223 := n1_; have BK224 := n2_; have BK228 := n3_; have BK233 := n4_; have HB := n5_; clear n0_ n1_ n2_ n3_ n4_ n5_; replace BK222 := Aside0.mk (bD BK222.out); replace BK223 := Aside0.mk (bD BK223.out); replace BK224 := Aside0.mk (bD BK224.out); replace BK228 := Aside0.mk (bD BK228.out); replace BK233 := Aside0.mk (bD BK233.out); replace HB := Aside0.mk (eD HB.out); refine start_ (n := 20) (S := fun w' => w'.cell? ⟨gb233, 0, none⟩ = some (.string ((rd_T102 l1_1 0).f0)) ∧ w'.cell? ⟨gb233, 1, none⟩ = some (.int .u32 ((rd_T102 l1_1 0).f1)) ∧ w'.cell? ⟨gb233, 2, none⟩ = some (.string ((rd_T102 l1_1 0).f2)) ∧ w'.cell? ⟨gb233, 3, none⟩ = some (.int .u64 ((rd_T102 l1_1 0).f3))) (ds := []) #[false, false, false, false, false, false, false, false, false, false, false, false, false, false, false, false, false, false, false, false] (by kernel_rfl) rfl rfl ⟨kC BK233 0, kC BK233 1, kC BK233 2, kC BK233 3⟩ (fun hHeld => ?_); refine with_tabW frame_Reply.tab10 frame_Reply.bits10 (fun HT_ HW_ => ?_)
        generalize w81.drew = w82 at BK222 BK223 BK224 BK228 BK233 HB hHeld ⊢; refine pU HT_ 0 (some 67) ?_ #[true, false, false, false, false, false, false, false, false, false, false, false, false, false, false, false, false, false, false, false] rfl rfl ?_ ?_ ?_ ?_
        rotate_left
        ·intro w'
         go_simp
         with_reducible rfl
        rotate_left
        ·simp only [Act.put, sA, sB, sC, i64_w, i32_w]
         rfl
        refine pU HT_ 2 (some 69) ?_ #[true, false, true, false, false, false, false, false, false, false, false, false, false, false, false, false, false, false, false, false] rfl rfl ?_ ?_ ?_ ?_
        rotate_left
        ·intro w'
         go_simp
         with_reducible rfl
        rotate_left
        ·simp only [Act.put, sA, sB, sC, i64_w, i32_w]
         rfl
        refine pU HT_ 6 (some 73) ?_ #[true, false, true, false, false, false, true, false, false, false, false, false, false, false, false, false, false, false, false, false] rfl rfl ?_ ?_ ?_ ?_
        rotate_left
        ·intro w'
         go_simp
         with_reducible rfl
        rotate_left
        ·simp only [Act.put, sA, sB, sC, i64_w, i32_w]
         rfl
        refine pU HT_ 8 (some 75) ?_ #[true, false, true, false, false, false, true, false, true, false, false, false, false, false, false, false, false, false, false, false] rfl rfl ?_ ?_ ?_ ?_
        rotate_left
        ·intro w'
         go_simp
         with_reducible rfl
        rotate_left
        ·simp only [Act.put, sA, sB, sC, i64_w, i32_w]
         rfl
        refine pU HT_ 10 (some 77) ?_ #[true, false, true, false, false, false, true, false, true, false, true, false, false, false, false, false, false, false, false, false] rfl rfl ?_ ?_ ?_ ?_
        rotate_left
        ·intro w'
         go_simp
         with_reducible rfl
        rotate_left
        ·simp only [Act.put, sA, sB, sC, i64_w, i32_w]
         rfl
        refine tU HT_ HW_ hHeld 1 (some 68) ?_ #[true, true, true, false, false, false, true, false, true, false, true, false, false, false, false, false, false, false, false, false] rfl rfl ?_ ?_ ?_ ?_
        rotate_left
        ·rintro w' ⟨s0, s1, s2, s3⟩
         go_simp
         with_reducible rfl
        rotate_left
        ·simp only [Act.put, sA, sB, sC, i64_w, i32_w]
         rfl
        refine tU HT_ HW_ hHeld 3 (some 70) ?_ #[true, true, true, true, false, false, true, false, true, false, true, false, false, false, false, false, false, false, false, false] rfl rfl ?_ ?_ ?_ ?_
        rotate_left
        ·rintro w' ⟨s0, s1, s2, s3⟩
         go_simp
         with_reducible rfl
        rotate_left
        ·simp only [Act.put, sA, sB, sC, i64_w, i32_w]
         rfl
        refine pU HT_ 4 (some 71) ?_ #[true, true, true, true, true, false, true, false, true, false, true, false, false, false, false, false, false, false, false, false] rfl rfl ?_ ?_ ?_ ?_
        rotate_left
        ·intro w'
         go_simp
         with_reducible rfl
        rotate_left
        ·simp only [Act.put, sA, sB, sC, i64_w, i32_w]
         rfl
        refine tU HT_ HW_ hHeld 7 (some 74) ?_ #[true, true, true, true, true, false, true, true, true, false, true, false, false, false, false, false, false, false, false, false] rfl rfl ?_ ?_ ?_ ?_
        rotate_left
        ·rintro w' ⟨s0, s1, s2, s3⟩
         go_simp
         with_reducible rfl
        rotate_left
        ·simp only [Act.put, sA, sB, sC, i64_w, i32_w]
         rfl
        refine tU HT_ HW_ hHeld 9 (some 76) ?_ #[true, true, true, true, true, false, true, true, true, true, true, false, false, false, false, false, false, false, false, false] rfl rfl ?_ ?_ ?_ ?_
        rotate_left
        ·rintro w' ⟨s0, s1, s2, s3⟩
         go_simp
         with_reducible rfl
        rotate_left
        ·simp only [Act.put, sA, sB, sC, i64_w, i32_w]
         rfl
        refine one_ (i := 5) (N := some 72) #[true, true, true, true, true, true, true, true, true, true, true, false, false, false, false, false, false, false, false, false] rfl rfl (one_of HT_.out (by kernel_rfl)) (by decide) (fun K hK => ?_)
        refine goes_ Try.func46 (by kernel_rfl) rfl #[.int .u64 (IntKind.u64.wrap ((rd_T102 l1_1 0).f1)), .int .i64 4] (by rfl) rfl rfl (by (try simp only [List.map_toArray, List.map_cons, List.map_nil]); first | done | rfl | (simp only [List.length_drop, List.length_take]; rfl)) ?_
        with_reducible refine (frame_number.calls kj33 (IntKind.u64.wrap ((rd_T102 l1_1 0).f1)) 4 t234 _ A70.out).mono ?_
        rintro e w83 ⟨rfl, hb⟩
        refine ⟨_, rfl, ?_⟩
        replace BK222 := rB BK222 hb; replace BK223 := rB BK223 hb; replace BK224 := rB BK224 hb; replace BK228 := rB BK228 hb; replace BK233 := rB BK233 hb; replace HB := rS HB hb
        (try clear hb)
        
        
        
        refine hK.out _ _ ⟨kC BK233 0, kC BK233 1, kC BK233 2, kC BK233 3⟩ (fun hHeld => ?_)
        clear hK K; refine norm_ (a' := ?_) ?_ ?_
        rotate_left
        ·show Act.put _ (some 72) _ = _
         simp only [Act.put, sA, sB, sC, i64_w, i32_w]
         rfl
        refine one_ (i := 11) (N := none) #[true, true, true, true, true, true, true, true, true, true, true, true, false, false, false, false, false, false, false, false] rfl rfl (one_of HT_.out (by kernel_rfl)) (by decide) (fun K hK => ?_)
        have hs84 : w83.cell? ⟨gb228, 2, none⟩ = some (.int .u16 t227) := (blk_cell BK228.out 2).trans rfl; have hfs84 := blk_frozen BK228.out 2; have hns84_0 := NB222_228.out; have hns84_1 := NB223_228.out; have hns84_2 := NB224_228.out; have hns84_4 := NB233_228.out; have hms84_0 := NB228_222.out; have hms84_1 := NB228_223.out; have hms84_2 := NB228_224.out; have hms84_4 := NB228_233.out; refine skip_ (w1 := ?_) (by rfl) rfl ?_ ?_
        rotate_left
        ·go_simp
         rfl
        refine hK.out _ _ ⟨(kF hHeld.1), (kF hHeld.2.1), (kF hHeld.2.2.1), (kF hHeld.2.2.2)⟩ (fun hHeld => ?_)
        clear hK K; refine pU HT_ 12 (some 78) ?_ #[true, true, true, true, true, true, true, true, true, true, true, true, true, false, false, false, false, false, false, false] rfl rfl ?_ ?_ ?_ ?_
        rotate_left
        ·intro w'
         go_simp
         with_reducible rfl
        rotate_left
        ·simp only [Act.put, sA, sB, sC, i64_w, i32_w]
         rfl
        refine one_ (i := 13) (N := none) #[true, true, true, true, true, true, true, true, true, true, true, true, true, true, false, false, false, false, false, false] rfl rfl (one_of HT_.out (by kernel_rfl)) (by decide) (fun K hK => ?_)
        have hs85 : w83.cell? ⟨gb228, 4, none⟩ = some (.int .u64 0) := (blk_cell BK228.out 4).trans rfl; have hfs85 := blk_frozen BK228.out 4; have hns85_0 := NB222_228.out; have hns85_1 := NB223_228.out; have hns85_2 := NB224_228.out; have hns85_4 := NB233_228.out; have hms85_0 := NB228_222.out; have hms85_1 := NB228_223.out; have hms85_2 := NB228_224.out; have hms85_4 := NB228_233.out; refine skip_ (w1 := ?_) (by rfl) rfl ?_ ?_
        rotate_left
        ·go_simp
         rfl
        refine hK.out _ _ ⟨(kF hHeld.1), (kF hHeld.2.1), (kF hHeld.2.2.1), (kF hHeld.2.2.2)⟩ (fun hHeld => ?_)
        clear hK K; refine pU HT_ 14 (some 79) ?_ #[true, true, true, true, true, true, true, true, true, true, true, true, true, true, true, false, false, false, false, false] rfl rfl ?_ ?_ ?_ ?_
        rotate_left
        ·intro w'
         go_simp
         with_reducible rfl
        rotate_left
        ·simp only [Act.put, sA, sB, sC, i64_w, i32_w]
         rfl
        refine one_ (i := 15) (N := none) #[true, true, true, true, true, true, true, true, true, true, true, true, true, true, true, true, false, false, false, false] rfl rfl (one_of HT_.out (by kernel_rfl)) (by decide) (fun K hK => ?_)
        have hs86 : w83.cell? ⟨gb228, 5, none⟩ = some (.string (⟨#[]⟩ : ByteArray)) := (blk_cell BK228.out 5).trans rfl; have hfs86 := blk_frozen BK228.out 5; have hns86_0 := NB222_228.out; have hns86_1 := NB223_228.out; have hns86_2 := NB224_228.out; have hns86_4 := NB233_228.out; have hms86_0 := NB228_222.out; have hms86_1 := NB228_223.out; have hms86_2 := NB228_224.out; have hms86_4 := NB228_233.out; refine skip_ (w1 := ?_) (by rfl) rfl ?_ ?_
        rotate_left
        ·go_simp
         rfl
        refine hK.out _ _ ⟨(kF hHeld.1), (kF hHeld.2.1), (kF hHeld.2.2.1), (kF hHeld.2.2.2)⟩ (fun hHeld => ?_)
        clear hK K; refine pU HT_ 16 (some 80) ?_ #[true, true, true, true, true, true, true, true, true, true, true, true, true, true, true, true, true, false, false, false] rfl rfl ?_ ?_ ?_ ?_
        rotate_left
        ·intro w'
         go_simp
         with_reducible rfl
        rotate_left
        ·simp only [Act.put, sA, sB, sC, i64_w, i32_w]
         rfl
        refine one_ (i := 17) (N := none) #[true, true, true, true, true, true, true, true, true, true, true, true, true, true, true, true, true, true, false, false] rfl rfl (one_of HT_.out (by kernel_rfl)) (by decide) (fun K hK => ?_)
        have hs87 : w83.cell? ⟨gb228, 6, none⟩ = some (.string (⟨#[]⟩ : ByteArray)) := (blk_cell BK228.out 6).trans rfl; have hfs87 := blk_frozen BK228.out 6; have hns87_0 := NB222_228.out; have hns87_1 := NB223_228.out; have hns87_2 := NB224_228.out; have hns87_4 := NB233_228.out; have hms87_0 := NB228_222.out; have hms87_1 := NB228_223.out; have hms87_2 := NB228_224.out; have hms87_4 := NB228_233.out; refine skip_ (w1 := ?_) (by rfl) rfl ?_ ?_
        rotate_left
        ·go_simp
         rfl
        refine hK.out _ _ ⟨(kF hHeld.1), (kF hHeld.2.1), (kF hHeld.2.2.1), (kF hHeld.2.2.2)⟩ (fun hHeld => ?_)
        clear hK K; refine pU HT_ 18 (some 81) ?_ #[true, true, true, true, true, true, true, true, true, true, true, true, true, true, true, true, true, true, true, false] rfl rfl ?_ ?_ ?_ ?_
        rotate_left
        ·intro w'
         go_simp
         with_reducible rfl
        rotate_left
        ·simp only [Act.put, sA, sB, sC, i64_w, i32_w]
         rfl
        refine one_ (i := 19) (N := none) #[true, true, true, true, true, true, true, true, true, true, true, true, true, true, true, true, true, true, true, true] rfl rfl (one_of HT_.out (by kernel_rfl)) (by decide) (fun K hK => ?_)
        have hs88 : w83.cell? ⟨gb228, 7, none⟩ = some (.string (⟨#[]⟩ : ByteArray)) := (blk_cell BK228.out 7).trans rfl; have hfs88 := blk_frozen BK228.out 7; have hns88_0 := NB222_228.out; have hns88_1 := NB223_228.out; have hns88_2 := NB224_228.out; have hns88_4 := NB233_228.out; have hms88_0 := NB228_222.out; have hms88_1 := NB228_223.out; have hms88_2 := NB228_224.out; have hms88_4 := NB228_233.out; refine skip_ (w1 := ?_) (by rfl) rfl ?_ ?_
        rotate_left
        ·go_simp
         rfl
        refine hK.out _ _ ⟨(kF hHeld.1), (kF hHeld.2.1), (kF hHeld.2.2.1), (kF hHeld.2.2.2)⟩ (fun hHeld => ?_)
        clear hK K; refine done_ (done_of HT_.out (by kernel_rfl)) ?_
        try go_wp2
        go_meet
        case rel => exact ⟨_, (0), ((rd_T102 l1_1 0).f3), (t234), ((rd_T102 l1_1 0).f0), ((rd_T102 l1_1 0).f2), H', ⟨by have := HJ5.out; have := HJ33.out; first | omega | exact Nat.le_refl _⟩, ⟨bK BK222.out⟩, ⟨bK BK223.out⟩, ⟨bK BK224.out⟩, ⟨bV BK228.out⟩, ⟨bH HB.out⟩⟩
       ·rw [if_neg c69] at H; exact absurd H (by simp)
      ·replace c68 := Bool.eq_false_iff.mpr c68; subst c68; rw [if_neg (show ¬ (false = true) by decide)] at H
       by_cases c89 : t227 = 1
       ·rw [if_pos c89] at H; have c89b0 : (t227 == 1) = true := beq_iff_eq.mpr c89; have c89b1 : (t227 != 1) = false := bne_eq_false_iff_eq.mpr c89; clear c89; have H' := Aside0.mk H; clear H; have hnb90 := rP NB228_222 NB222_228; have hnb91 := rP NB228_223 NB223_228; have hnb92 := rP NB228_224 NB224_228; obtain ⟨hcz93, hfz93⟩ := d8 BK228; have hnb94 := rP NB222_223 NB223_222; have hnb95 := rP NB222_224 NB224_222; obtain ⟨hcz96, hfz96⟩ := d8 BK222; go_wp2
        go_meet
        case rel => exact ⟨_, (t227), (0), ((⟨#[]⟩ : ByteArray)), (a0_6), ((⟨#[]⟩ : ByteArray)), H', ⟨by have := HJ5.out; have := HJ33.out; first | omega | exact Nat.le_refl _⟩, ⟨bK BK222.out⟩, ⟨bK BK223.out⟩, ⟨bK BK224.out⟩, ⟨bV BK228.out⟩, ⟨bH HB.out⟩⟩
       ·rw [if_neg c89] at H; have c89b0 : (t227 == 1) = false := beq_eq_false_iff_ne.mpr c89; have c89b1 : (t227 != 1) = true := bne_iff_ne.mpr c89
        by_cases c97 : a1_0 = 7
        ·rw [if_pos c97] at H; have c97b0 : (a1_0 == 7) = true := beq_iff_eq.mpr c97; have c97b1 : (a1_0 != 7) = false := bne_eq_false_iff_eq.mpr c97; clear c97; replace H := Option.bind_eq_some_iff.mp H; obtain ⟨t235, A980, H⟩ := H; (try dsimp only at H); have A98 := Aside0.mk A980; clear A980; have H' := Aside0.mk H; clear H; have hnb99 := rP NB228_222 NB222_228; have hnb100 := rP NB228_223 NB223_228; have hnb101 := rP NB228_224 NB224_228; obtain ⟨hcz102, hfz102⟩ := d8 BK228; have hnb103 := rP NB223_222 NB222_223; have hnb104 := rP NB223_224 NB224_223; obtain ⟨hcz105, hfz105⟩ := d3 BK223
         go_wp2_with (first | ((with_reducible refine gate_callee (f := 46) rfl ?_); refine gL (some 96) rfl rfl Try.func46 #[.int .u64 a1_2, .int .i64 8] rfl ?_; (with_reducible refine (frame_number.calls kj33 a1_2 8 t235 _ A98.out).mono ?_); rintro e w106 ⟨rfl, hb⟩; refine ⟨_, rfl, ?_⟩; replace BK222 := rB BK222 hb; replace BK223 := rB BK223 hb; replace BK224 := rB BK224 hb; replace BK228 := rB BK228 hb; replace HB := rS HB hb; (try clear hb); obtain ⟨hcz107, hfz107⟩ := d8 BK228))
         go_meet
         case rel => exact ⟨_, (t227), (a2), ((⟨#[]⟩ : ByteArray)), ((⟨#[]⟩ : ByteArray)), (t235), H', ⟨by have := HJ5.out; have := HJ33.out; first | omega | exact Nat.le_refl _⟩, ⟨bK BK222.out⟩, ⟨bK BK223.out⟩, ⟨bK BK224.out⟩, ⟨bV BK228.out⟩, ⟨bH HB.out⟩⟩
        ·rw [if_neg c97] at H; have c97b0 : (a1_0 == 7) = false := beq_eq_false_iff_ne.mpr c97; have c97b1 : (a1_0 != 7) = true := bne_iff_ne.mpr c97
         by_cases c108 : a1_0 = 2
         ·rw [if_pos c108] at H; have c108b0 : (a1_0 == 2) = true := beq_iff_eq.mpr c108; have c108b1 : (a1_0 != 2) = false := bne_eq_false_iff_eq.mpr c108; clear c108; have H' := Aside0.mk H; clear H; have hnb109 := rP NB228_222 NB222_228; have hnb110 := rP NB228_223 NB223_228; have hnb111 := rP NB228_224 NB224_228; obtain ⟨hcz112, hfz112⟩ := d8 BK228; have hnb113 := rP NB223_222 NB222_223; have hnb114 := rP NB223_224 NB224_223; obtain ⟨hcz115, hfz115⟩ := d3 BK223; go_wp2
          go_meet
          case rel => exact ⟨_, (t227), (a2), ((⟨#[]⟩ : ByteArray)), ((⟨#[]⟩ : ByteArray)), ((⟨#[]⟩ : ByteArray)), H', ⟨by have := HJ5.out; have := HJ33.out; first | omega | exact Nat.le_refl _⟩, ⟨bK BK222.out⟩, ⟨bK BK223.out⟩, ⟨bK BK224.out⟩, ⟨bV BK228.out⟩, ⟨bH HB.out⟩⟩
         ·rw [if_neg c108] at H; have c108b0 : (a1_0 == 2) = false := beq_eq_false_iff_ne.mpr c108; have c108b1 : (a1_0 != 2) = true := bne_iff_ne.mpr c108; have H' := Aside0.mk H; clear H; have hnb116 := rP NB228_222 NB222_228; have hnb117 := rP NB228_223 NB223_228; have hnb118 := rP NB228_224 NB224_228; obtain ⟨hcz119, hfz119⟩ := d8 BK228; have hnb120 := rP NB223_222 NB222_223; have hnb121 := rP NB223_224 NB224_223; obtain ⟨hcz122, hfz122⟩ := d3 BK223; go_wp2
          go_meet
          case rel => exact ⟨_, (t227), (0), ((⟨#[]⟩ : ByteArray)), ((⟨#[]⟩ : ByteArray)), ((⟨#[]⟩ : ByteArray)), H', ⟨by have := HJ5.out; have := HJ33.out; first | omega | exact Nat.le_refl _⟩, ⟨bK BK222.out⟩, ⟨bK BK223.out⟩, ⟨bK BK224.out⟩, ⟨bK BK228.out⟩, ⟨bH HB.out⟩⟩
     case rest =>
      clear HC67; (try clear c68); (try clear c69); (try clear c69b0); (try clear c69b1); (try clear c89); (try clear c89b0); (try clear c89b1); (try clear c97); (try clear c97b0); (try clear c97b1); (try clear c108); (try clear c108b0); (try clear c108b1); (try clear hcz102); (try clear hcz105); (try clear hcz107); (try clear hcz112); (try clear hcz115); (try clear hcz119); (try clear hcz122); (try clear hcz61); (try clear hcz66); (try clear hcz74); (try clear hcz80); (try clear hcz93); (try clear hcz96); (try clear hfz102); (try clear hfz105); (try clear hfz107)
      (try clear hfz107); (try clear hfz112); (try clear hfz115); (try clear hfz119); (try clear hfz122); (try clear hfz12); (try clear hfz29); (try clear hfz33); (try clear hfz41); (try clear hfz45); (try clear hfz55); (try clear hfz61); (try clear hfz66); (try clear hfz74); (try clear hfz80); (try clear hfz93); (try clear hfz96); (try clear hx232_0); (try clear hx232_1); (try clear hx232_2); (try clear hx232_3); (try clear p232); (try clear q232); obtain ⟨kq, z0, z1, z2, zc, z3, HA, HJ66, BK222, BK223, BK224, BK228, HB⟩ := hcut; cases kq with
      | zero => exact absurd HA.out (by simp [frame_Reply.j4])
      | succ kj66 =>
       have H := HA.out; clear HA; simp only [frame_Reply.j4] at H
       by_cases c123 : t225 = 2
       ·rw [if_pos c123] at H; have c123b0 : (t225 == 2) = true := beq_iff_eq.mpr c123; have c123b1 : (t225 != 2) = false := bne_eq_false_iff_eq.mpr c123; clear c123; simp only [Option.some.injEq, Prod.mk.injEq] at H; obtain ⟨rfl, rfl, rfl, rfl, rfl, rfl, rfl, rfl, rfl⟩ := H; have hnb124 := rP NB228_222 NB222_228; have hnb125 := rP NB228_223 NB223_228; have hnb126 := rP NB228_224 NB224_228; obtain ⟨hcz127, hfz127⟩ := d8 BK228; have hnb128 := rP NB224_222 NB222_224; have hnb129 := rP NB224_223 NB223_224; obtain ⟨hcz130, hfz130⟩ := d8 BK224; go_wp2; refine bodyPost_ret (results_ct rfl _ _ gb224 31 #[.bool true, .int .u8 a0_1, .int .u16 z0, .int .u32 a0_3, .int .u64 z1, .string z2, .string zc, .string z3] (0, 0) _ rfl (bV BK224.out) Try.underlying31 rfl (by kernel_rfl)) rfl ?_
        exact ⟨xR, bH HB.out⟩
       ·rw [if_neg c123] at H; have c123b0 : (t225 == 2) = false := beq_eq_false_iff_ne.mpr c123; have c123b1 : (t225 != 2) = true := bne_iff_ne.mpr c123; simp only [Option.some.injEq, Prod.mk.injEq] at H; obtain ⟨rfl, rfl, rfl, rfl, rfl, rfl, rfl, rfl, rfl⟩ := H; have hnb131 := rP NB228_222 NB222_228; have hnb132 := rP NB228_223 NB223_228; have hnb133 := rP NB228_224 NB224_228; obtain ⟨hcz134, hfz134⟩ := d8 BK228; have hnb135 := rP NB224_222 NB222_224; have hnb136 := rP NB224_223 NB223_224; obtain ⟨hcz137, hfz137⟩ := d8 BK224; go_wp2; refine bodyPost_ret (results_ct rfl _ _ gb224 31 #[.bool true, .int .u8 a0_1, .int .u16 z0, .int .u32 a0_3, .int .u64 z1, .string z2, .string (⟨#[]⟩ : ByteArray), .string z3] (0, 0) _ rfl (bV BK224.out) Try.underlying31 rfl (by kernel_rfl)) rfl ?_
        exact ⟨xR, bH HB.out⟩

end Go.Proofs.Ytdepkgikdmlgiaa.P
