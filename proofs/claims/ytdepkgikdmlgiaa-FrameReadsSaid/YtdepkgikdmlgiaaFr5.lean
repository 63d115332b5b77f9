/- FrameReads' walk: whatever bytes come, both readers say the same. Condition: what both Unpacks say is the same (Nxt). -/
import Derived.Test.YtdepkgikdmlgiaaFr4
import Derived.Test.YtdepkgikdmlgiaaPx11
namespace Go.Proofs.Ytdepkgikdmlgiaa.P
open Go.RowKit Go.Proofs.YtdepkgikdmlgiaaW.PrintWords Go.Proofs.YtdepkgikdmlgiaaW.PrintLast Go.Proofs.YtdepkgikdmlgiaaW.PrintMore
set_option linter.unusedVariables false
set_option linter.unusedSimpArgs false
/-- Both Unpacks say the same of any bytes; a frame's bytes are no more than are there. -/
def Nxt : Prop := ∀ bs : List Int, bs.length ≤ 2097152 → ∃ (f1 : Bool) (f2 f3 f4 f5 : Int) (f6 f7 f8 : ByteArray) (n e : Int),
  (∃ k, frame_Unpack.f k (strOfNums bs) = some (f1, f2, f3, f4, f5, f6, f7, f8, n, e)) ∧ (∃ k, tallboyref29_Unpack.f k (strOfNums bs) = some (f1, f2, f3, f4, f5, f6, f7, f8, n, e)) ∧ (e = 0 → 0 ≤ n ∧ n ≤ (bs.length : Int))
set_option maxHeartbeats 1000000 in
theorem FRd.new (w0 w : World) (hB : Below w0.heap.size w0 w) :
    Calls Try.prog 18 #[] w fun e w' => ∃ g, e = .returned (.pointer (some ⟨g, 0, none⟩)) ∧ FRd w0 w' g [] 0 ∧ Below w0.heap.size w0 w' := by
  have HB := Aside0.mk hB
  clear hB
  go_enter Try.func18, Try.ntmps18
  go_wp2
  go_ret
  exact ⟨_, rfl, ⟨none, 0, by simpa using blk_new w (.cells #[.slice none 0 0, .int .i64 0] 95), HB.out.size, Kd.Q_nil _ _ _ _ _⟩, below_alloc HB.out _⟩
theorem l0_at {w : World} {A0 : Option Addr} {n : Nat} {l0 : List (List Int)} (h : Kd.C (Kd.slice 5 kB) w A0 n l0) (i : Nat) (hi : i < n) :
    ∃ ad A' c', A0 = some ad ∧ w.cell? (ad.add i) = some (.slice A' (l0.getD i []).length c') ∧ (l0.getD i []).length ≤ c' ∧ kB.C w A' (l0.getD i []).length (l0.getD i []) := by
  obtain ⟨ad, c, rfl, hcl, ⟨A', c', rfl, hle, hC⟩, hcell⟩ := Kd.C_get h [] (i : Int) (by omega) (by omega)
  have := hcell 0 _ rfl
  exact ⟨ad, A', c', rfl, by simpa [Kd.slice] using this, hle, hC⟩
theorem append_exec {P : Program} {a : Act} {o : Oper} {s x : Operand} {t : TypeId} {v u v1 : Value} {w w1 : World} (ho : o.op = .call { callee := .builtin .append, args := #[s, x], argTypes := #[t, t] }) (hs : a.eval s = v) (hx : a.eval x = u) (hr : (Builtin.append_ #[t, t] o.type #[v, u]).run P w = .ok v1 w1) : (execOp a.eval o).run P w = .ok (.value v1) w1 := by
  unfold execOp
  simp only [ho, resolve, invoke, builtin, Sem.run_bind, Sem.run_pure, Result.andThen_ok, List.map_toArray, List.map_cons, List.map_nil, hs, hx, hr]
theorem FRd.step {w0 W W9 w1 : World} {g b : Nat} {bs : List Int} {tl : Int} (h : FRd w0 W g bs tl) (hb : Below W.heap.size W W9) (hg : W9.grownBy w1 (some b)) (hlt : W.heap.size ≤ b) : FRd w0 w1 g bs tl := by
  obtain ⟨A, c, h1, h2, h3⟩ := h
  have hl := blk_lt h1
  exact ⟨A, c, blk_grown (blk_below h1 hb) hg (fun he => by injection he with he; omega), h2, Kd.Q_mono (Kd.Q_grown (Kd.Q_below (Kd.Q_bound h3) hb) hg (fun k hk he => by injection he with he; have := hk.2.2.1; omega)) (fun _ h => h.1)⟩
theorem RRd.step {W W9 w1 : World} {g b : Nat} {bs : List Int} {tl : Int} (h : RRd W g bs tl) (hb : Below W.heap.size W W9) (hg : W9.grownBy w1 (some b)) (hlt : W.heap.size ≤ b) : RRd w1 g bs tl :=
  blk_grown (blk_below h hb) hg (fun he => by injection he with he; have := blk_lt h; omega)
/-- What Next says, of both readers. -/
theorem nxt_both (hN : Nxt) (bs : List Int) (tl : Int) (hl : bs.length ≤ 2097152) : ∃ (x1 : Bool) (x2 x3 x4 x5 : Int) (x6 x7 x8 : ByteArray) (okv : Bool) (er : Int) (bs3 : List Int) (tl3 : Int), bs3.length ≤ bs.length ∧
    (∀ (w0 w : World) (g : Nat), FRd w0 w g bs tl → Below w0.heap.size w0 w → Calls Try.prog 21 #[.pointer (some ⟨g, 0, none⟩)] w fun e_ w' => e_ = .returned (.tuple #[.agg #[.bool x1, .int .u8 x2, .int .u16 x3, .int .u32 x4, .int .u64 x5, .string x6, .string x7, .string x8], .bool okv, .int .i64 er]) ∧ FRd w0 w' g bs3 tl3 ∧ Below w0.heap.size w0 w' ∧ KeptT w w' g) ∧
    (∀ (w0 w : World) (g : Nat), RRd w g bs tl → Below w0.heap.size w0 w → w0.heap.size ≤ g → Calls Try.prog 22 #[.pointer (some ⟨g, 0, none⟩)] w fun e_ w' => e_ = .returned (.tuple #[.agg #[.bool x1, .int .u8 x2, .int .u16 x3, .int .u32 x4, .int .u64 x5, .string x6, .string x7, .string x8], .bool okv, .int .i64 er]) ∧ RRd w' g bs3 tl3 ∧ Below w0.heap.size w0 w' ∧ KeepBut w w' g none) := by
  by_cases ht : tl = 0
  · subst ht
    obtain ⟨f1, f2, f3, f4, f5, f6, f7, f8, n, e, ⟨k1, h1⟩, ⟨k2, h2⟩, h3⟩ := hN bs hl
    by_cases he3 : e = 3
    · exact ⟨_, _, _, _, _, _, _, _, _, _, bs, 0, Nat.le_refl _, fun w0 w g hI hB => FRd.next_none k1 w0 w g bs f1 f2 f3 f4 f5 f6 f7 f8 n e hI hB h1 he3, fun w0 w g hI hB hg => RRd.next_none k2 w0 w g bs f1 f2 f3 f4 f5 f6 f7 f8 n e hI hB hg h2 he3⟩
    · by_cases he : e = 0
      · obtain ⟨hn0, hn1⟩ := h3 he
        exact ⟨_, _, _, _, _, _, _, _, _, _, bs.drop n.toNat, 0, by rw [List.length_drop]; omega, fun w0 w g hI hB => FRd.next_some k1 w0 w g bs f1 f2 f3 f4 f5 f6 f7 f8 n e hI hB h1 he hn0 hn1, fun w0 w g hI hB hg => RRd.next_some k2 w0 w g bs f1 f2 f3 f4 f5 f6 f7 f8 n e hI hB hg h2 he hn0 hn1⟩
      · exact ⟨_, _, _, _, _, _, _, _, _, _, bs, e, Nat.le_refl _, fun w0 w g hI hB => FRd.next_bad k1 w0 w g bs f1 f2 f3 f4 f5 f6 f7 f8 n e hI hB h1 he he3, fun w0 w g hI hB hg => RRd.next_bad k2 w0 w g bs f1 f2 f3 f4 f5 f6 f7 f8 n e hI hB hg h2 he he3⟩
  · exact ⟨_, _, _, _, _, _, _, _, _, _, bs, tl, Nat.le_refl _, fun w0 w g hI hB => FRd.next_told w0 w g bs tl hI hB ht, fun w0 w g hI hB hg => RRd.next_told w0 w g bs tl hI hB hg ht⟩
set_option maxHeartbeats 4000000 in
set_option maxRecDepth 100000 in
theorem fr_law (w : World) (A0 : Option Addr) (c0 : Nat) (l0 : List (List Int)) (hr0 : Kd.C (Kd.slice 5 kB) w A0 l0.length l0) (hc0 : l0.length ≤ c0) (hN : Nxt) :
    Calls Try.prog 4 #[.slice A0 l0.length c0] w fun e w' => e = .returned (.bool true) ∧ Below w.heap.size w w' := by
  have HR := Aside0.mk hr0
  have HN := Aside0.mk hN
  obtain ⟨n0, hn0⟩ : ∃ n0, n0 = l0.length := ⟨_, rfl⟩
  rw [← hn0] at hc0 ⊢
  have HN0 := Aside0.mk hn0
  have HB := Aside0.mk (Below.refl w.heap.size w)
  clear hr0 hN hn0
  go_enter Try.func4, Try.ntmps4
  go_wp2_with (first | (go_at_call 18; (with_reducible refine (FRd.new w _ HB.out).mono ?_); rintro e w1 ⟨ga, rfl, hI1, hB1⟩; have HI := Aside0.mk hI1; replace HB := Aside0.mk hB1; clear hI1 hB1) | ((with_reducible refine gate_dst (N := 16) rfl ?_); refine bE 16 #[.string ⟨#[]⟩, .int .i64 0] 45 rfl rfl ?_; intro gb hgb w2 hbox hb; have HGB := Aside0.mk (show w.heap.size ≤ gb by rw [hgb]; exact HB.out.size); have HJ := Aside0.mk (show RRd w2 gb [] 0 from hbox); replace HI := Aside0.mk (HI.out.below hb); replace HB := Aside0.mk (below_step HB.out hb); clear hgb hbox hb))
  go_loopg [5, 6] n0 (fun q v5 v6 wr => ∃ (n : Int) (i : Nat) (bs : List Int) (tl : Int), v5 = .int .i64 n ∧ v6 = .int .i64 (i : Int) ∧ Aside0 (q + i = n0) ∧ Aside0 (0 ≤ n ∧ n ≤ 40000 ∧ (bs.length : Int) ≤ n) ∧ Aside0 (FRd w wr ga bs tl) ∧ Aside0 (RRd wr gb bs tl) ∧ Aside0 (Below w.heap.size w wr))
  case atStart => exact ⟨0, 0, [], 0, rfl, rfl, ⟨by omega⟩, ⟨by simp⟩, HI, HJ, HB⟩
  case round =>
    clear HI HJ HB
    obtain ⟨n, i, bs, tl, rfl, rfl, HQ, HNN, HI, HJ, HB⟩ := hrel
    by_cases h1 : i < n0
    · by_cases h2 : i < 60
      · obtain ⟨qo, hqo⟩ : ∃ qo, gk = qo + 1 := ⟨n0 - i - 1, by have := HQ.out; omega⟩
        subst hqo
        have hwi : wrap64 ((i : Int) + 1) = ((i + 1 : Nat) : Int) := by unfold wrap64; omega
        have hd1 : decide ((i : Int) < (n0 : Int)) = true := decide_eq_true (by omega)
        have hd1b : decide (i < n0) = true := decide_eq_true h1
        have hd2 : decide ((i : Int) < 60) = true := decide_eq_true (by omega)
        have hd2b : decide (i < 60) = true := decide_eq_true h2
        obtain ⟨ad, B, cb, rfl, hx0, hcb, hC0⟩ := l0_at (by have := HR.out; rwa [← HN0.out] at this) i h1
        obtain ⟨b, hb⟩ : ∃ b, b = l0.getD i [] := ⟨_, rfl⟩
        rw [← hb] at hx0 hcb hC0
        have hx : wr.cell? (ad.add i) = some (.slice B b.length cb) := (HB.out.cell (World.block_lt_of_cell? w _ hx0)).trans hx0
        have HC := Aside0.mk (Kd.C_below hC0 HB.out)
        have hi0 : (0 ≤ (i : Int)) = True := eq_true (by omega)
        have hi1 : ((i : Int) < (n0 : Int)) = True := eq_true (by omega)
        have hi2 : (i < n0) = True := eq_true h1
        have hw1 : wrap64 (40000 - n) = 40000 - n := by have := HNN.out; unfold wrap64; omega
        have HLT := Aside0.mk (World.block_lt_of_cell? w _ hx0); have HX0 := Aside0.mk hx0; have HC0 := Aside0.mk hC0; have HNE := Aside0.mk (HI.out.blk HJ.out (by decide))
        clear hb hx0 hC0
        by_cases h3 : (b.length : Int) > 40000 - n
        · have hd3 : decide (40000 - n < (b.length : Int)) = true := decide_eq_true h3
          clear h1 h2 h3
          go_wp2
          go_ret
          exact ⟨rfl, HB.out⟩
        · have hd3 : decide (40000 - n < (b.length : Int)) = false := decide_eq_false h3
          have hw2 : wrap64 (n + (b.length : Int)) = n + (b.length : Int) := by have := HNN.out; unfold wrap64; omega
          have HLE := Aside0.mk (show (b.length : Int) ≤ 40000 - n by omega)
          clear h1 h2 h3
          go_wp2
          refine start_ (n := 15) (S := fun w' => w'.cell? (ad.add i) = some (.slice B b.length cb) ∧ kB.C w' B b.length b) (ds := []) #[false, false, false, false, false, false, false, false, false, false, false, false, false, false, false] (by kernel_rfl) rfl rfl ⟨hx, HC.out⟩ (fun hHeld => ?_)
          refine pure_ (i := 0) (N := some 44) (v := .pointer (some ⟨ga, 0, none⟩)) (a' := ?_) #[true, false, false, false, false, false, false, false, false, false, false, false, false, false, false] rfl rfl (by kernel_rfl) (fun _ _ _ h => h) (Or.inl ⟨by rfl, ?_⟩) ?_ ?_
          · intro w'; first | (go_simp; done) | (go_simp; with_reducible rfl)
          rotate_left
          · simp only [Act.put, sA, sB, sC, i64_w, i32_w]; rfl
          refine pure_ (i := 2) (N := some 46) (v := .slice (some ad) n0 c0) (a' := ?_) #[true, false, true, false, false, false, false, false, false, false, false, false, false, false, false] rfl rfl (by kernel_rfl) (fun _ _ _ h => h) (Or.inl ⟨by rfl, ?_⟩) ?_ ?_
          · intro w'; first | (go_simp; done) | (go_simp; with_reducible rfl)
          rotate_left
          · simp only [Act.put, sA, sB, sC, i64_w, i32_w]; rfl
          refine pure_ (i := 3) (N := some 47) (v := .int .i64 (i : Int)) (a' := ?_) #[true, false, true, true, false, false, false, false, false, false, false, false, false, false, false] rfl rfl (by kernel_rfl) (fun _ _ _ h => h) (Or.inl ⟨by rfl, ?_⟩) ?_ ?_
          · intro w'; first | (go_simp; done) | (go_simp; with_reducible rfl)
          rotate_left
          · simp only [Act.put, sA, sB, sC, i64_w, i32_w]; rfl
          refine pure_ (i := 4) (N := some 48) (v := .pointer (some (ad.add i))) (a' := ?_) #[true, false, true, true, true, false, false, false, false, false, false, false, false, false, false] rfl rfl (by kernel_rfl) (fun _ _ _ h => h) (Or.inl ⟨by rfl, ?_⟩) ?_ ?_
          · intro w'; first | (go_simp; done) | (go_simp; with_reducible rfl)
          rotate_left
          · simp only [Act.put, sA, sB, sC, i64_w, i32_w]; rfl
          refine take_ (i := 5) (N := some 49) (v := .slice B b.length cb) (a' := ?_) #[true, false, true, true, true, true, false, false, false, false, false, false, false, false, false] rfl rfl (by kernel_rfl) (fun _ _ _ h => h) (Or.inl ⟨by rfl, ?_⟩) hHeld ?_ ?_
          · intro w' hHw; (try obtain ⟨hHw, hHw1⟩ := hHw); first | (go_simp; done) | (go_simp; with_reducible rfl)
          rotate_left
          · simp only [Act.put, sA, sB, sC, i64_w, i32_w]; rfl
          refine pure_ (i := 8) (N := some 52) (v := .pointer (some ⟨gb, 0, none⟩)) (a' := ?_) #[true, false, true, true, true, true, false, false, true, false, false, false, false, false, false] rfl rfl (by kernel_rfl) (fun _ _ _ h => h) (Or.inl ⟨by rfl, ?_⟩) ?_ ?_
          · intro w'; first | (go_simp; done) | (go_simp; with_reducible rfl)
          rotate_left
          · simp only [Act.put, sA, sB, sC, i64_w, i32_w]; rfl
          refine pure_ (i := 9) (N := some 53) (v := .slice (some ad) n0 c0) (a' := ?_) #[true, false, true, true, true, true, false, false, true, true, false, false, false, false, false] rfl rfl (by kernel_rfl) (fun _ _ _ h => h) (Or.inl ⟨by rfl, ?_⟩) ?_ ?_
          · intro w'; first | (go_simp; done) | (go_simp; with_reducible rfl)
          rotate_left
          · simp only [Act.put, sA, sB, sC, i64_w, i32_w]; rfl
          refine pure_ (i := 10) (N := some 54) (v := .int .i64 (i : Int)) (a' := ?_) #[true, false, true, true, true, true, false, false, true, true, true, false, false, false, false] rfl rfl (by kernel_rfl) (fun _ _ _ h => h) (Or.inl ⟨by rfl, ?_⟩) ?_ ?_
          · intro w'; first | (go_simp; done) | (go_simp; with_reducible rfl)
          rotate_left
          · simp only [Act.put, sA, sB, sC, i64_w, i32_w]; rfl
          refine pure_ (i := 11) (N := some 55) (v := .pointer (some (ad.add i))) (a' := ?_) #[true, false, true, true, true, true, false, false, true, true, true, true, false, false, false] rfl rfl (by kernel_rfl) (fun _ _ _ h => h) (Or.inl ⟨by rfl, ?_⟩) ?_ ?_
          · intro w'; first | (go_simp; done) | (go_simp; with_reducible rfl)
          rotate_left
          · simp only [Act.put, sA, sB, sC, i64_w, i32_w]; rfl
          refine take_ (i := 12) (N := some 56) (v := .slice B b.length cb) (a' := ?_) #[true, false, true, true, true, true, false, false, true, true, true, true, true, false, false] rfl rfl (by kernel_rfl) (fun _ _ _ h => h) (Or.inl ⟨by rfl, ?_⟩) hHeld ?_ ?_
          · intro w' hHw; (try obtain ⟨hHw, hHw1⟩ := hHw); first | (go_simp; done) | (go_simp; with_reducible rfl)
          rotate_left
          · simp only [Act.put, sA, sB, sC, i64_w, i32_w]; rfl
          refine one_ (i := 1) (N := some 45) #[true, true, true, true, true, true, false, false, true, true, true, true, true, false, false] rfl rfl (by kernel_rfl) (by decide) (fun K hK => ?_)
          refine value_ (w1 := wr.drew.alloc (.cells #[] 5)) (v := .slice (some ⟨wr.heap.size, 0, none⟩) 0 0) (by rfl) rfl ?_ ?_
          · first | (go_simp; done) | (go_simp; rfl)
          have hb9 : Below wr.drew.heap.size wr.drew (wr.drew.alloc (.cells #[] 5)) := below_alloc (Below.refl _ _) _
          have HI9 := Aside0.mk (show FRd w (wr.drew.alloc (.cells #[] 5)) ga bs tl from FRd.below (W := wr.drew) HI.out hb9); have HJ9 := Aside0.mk (show RRd (wr.drew.alloc (.cells #[] 5)) gb bs tl from RRd.below (W := wr.drew) HJ.out hb9); have HB9 := Aside0.mk (below_alloc (below_drew1 HB.out) (.cells #[] 5)); have HG9 := Aside0.mk (show w.heap.size ≤ wr.heap.size from HB.out.size); have BN9 := blk_new wr.drew (.cells #[] 5)
          obtain ⟨g9, hg9⟩ : ∃ g9, g9 = wr.heap.size := ⟨_, rfl⟩
          have HQ9 := Aside0.mk (show kB.Q 5 (wr.drew.alloc (.cells #[] 5)) w.heap.size (fun _ => True) (.slice (some ⟨wr.heap.size, 0, none⟩) 0 0) [] from ⟨fun _ _ => trivial, [], ⟨rfl, .inl ⟨rfl, _, rfl, fun a ha => by cases ha; exact ⟨HG9.out, _, BN9⟩⟩⟩, Reps.none _ _⟩)
          have hS9 : (wr.drew.alloc (.cells #[] 5)).cell? (ad.add i) = some (.slice B b.length cb) ∧ kB.C (wr.drew.alloc (.cells #[] 5)) B b.length b := ⟨(hb9.cell (World.block_lt_of_cell? wr.drew _ hHeld.1)).trans hHeld.1, Kd.C_below hHeld.2 hb9⟩
          refine hK.out _ _ hS9 (fun hHeld => ?_)
          clear hK K; refine norm_ (a' := ?_) ?_ ?_
          rotate_left
          · show Act.put _ (some 45) _ = _; simp only [Act.put, sA, sB, sC, i64_w, i32_w]; rfl
          obtain ⟨w9, hw9⟩ : ∃ w9, w9 = wr.drew.alloc (.cells #[] 5) := ⟨_, rfl⟩
          have hb9' : Below wr.drew.heap.size wr.drew w9 := by rw [hw9]; exact hb9
          rw [← hw9] at HI9 HJ9 HB9 HQ9 hHeld ⊢
          refine one_ (i := 6) (N := some 50) #[true, true, true, true, true, true, true, false, true, true, true, true, true, false, false] rfl rfl (by kernel_rfl) (by decide) (fun K hK => ?_)
          obtain ⟨v1, w1, hr1, hq1, hg1, hat1⟩ := fr_run (P := Try.prog) (W := w9) w.heap.size 46 46 5 (.int .u8 0) 1 Try.underlying46 info_u8 rfl (by decide) (.slice (some ⟨wr.heap.size, 0, none⟩) 0 0) [] b B b.length cb (fun _ => True) HQ9.out hHeld.2 (fun _ _ => trivial) HB9.out.size (by have := HLE.out; have := HNN.out; simp; omega)
          obtain ⟨A1, c1, rfl, hc1⟩ := Kd.Q_slice hq1
          refine value_ (w1 := w1) (v := .slice A1 ([] ++ b).length c1) (by rfl) rfl ?_ ?_
          · exact append_exec (s := .tmp 45) (x := .tmp 49) (t := 46) rfl rfl rfl hr1
          have HI1 := Aside0.mk (FRd.step (W := wr.drew) HI.out hb9' hg1 (Nat.le_refl _)); have HJ1 := Aside0.mk (RRd.step (W := wr.drew) HJ.out hb9' hg1 (Nat.le_refl _)); have HB1 := Aside0.mk (HB9.out.grown hg1 HB9.out.size (fun k hk => by cases hk; exact HG9.out)); have HQ1 := Aside0.mk hq1; clear hr1 hq1 hg1 hat1 hc1 hHeld
          refine hK.out _ _ ⟨(HB1.out.cell HLT.out).trans HX0.out, Kd.C_below HC0.out HB1.out⟩ (fun hHeld => ?_)
          clear hK K; refine norm_ (a' := ?_) ?_ ?_
          rotate_left
          · show Act.put _ (some 50) _ = _; simp only [Act.put, sA, sB, sC, i64_w, i32_w]; rfl
          refine one_ (i := 7) (N := some 51) #[true, true, true, true, true, true, true, true, true, true, true, true, true, false, false] rfl rfl (by kernel_rfl) (by decide) (fun K hK => ?_)
          refine goes_ Try.func19 (by kernel_rfl) rfl #[.pointer (some ⟨ga, 0, none⟩), .slice A1 ([] ++ b).length c1] (by rfl) rfl rfl (by (try simp only [List.map_toArray, List.map_cons, List.map_nil]); first | done | rfl) ?_
          refine (FRd.feed w _ ga bs tl A1 c1 ([] ++ b) HI1.out HB1.out (Kd.Q_reads' HQ1.out).2.2 (by have := HNN.out; omega) (by have := HLE.out; have := HNN.out; simp; omega)).mono ?_
          rintro e w3 ⟨rfl, hI3, hB3, hK3⟩; have HI3 := Aside0.mk hI3; have HB3 := Aside0.mk hB3; have HJ3 := Aside0.mk (show RRd w3 gb bs tl from hK3.2 gb _ _ HJ1.out (by decide) (fun he => HNE.out he.symm)); clear hI3 hB3 hK3 hHeld
          refine ⟨_, rfl, ?_⟩
          refine hK.out _ _ ⟨(HB3.out.cell HLT.out).trans HX0.out, Kd.C_below HC0.out HB3.out⟩ (fun hHeld => ?_)
          clear hK K; refine norm_ (a' := ?_) ?_ ?_
          rotate_left
          · show Act.put _ (some 51) _ = _; simp only [Act.put, sA, sB, sC, i64_w, i32_w]; rfl
          refine one_ (i := 13) (N := some 57) #[true, true, true, true, true, true, true, true, true, true, true, true, true, true, false] rfl rfl (by kernel_rfl) (by decide) (fun K hK => ?_)
          refine goes_ Try.func20 (by kernel_rfl) rfl #[.pointer (some ⟨gb, 0, none⟩), .slice B b.length cb] (by rfl) rfl rfl (by (try simp only [List.map_toArray, List.map_cons, List.map_nil]); first | done | rfl) ?_
          refine (RRd.feed w _ gb bs tl B cb b HJ3.out HB3.out HGB.out hHeld.2 (by have := HNN.out; omega) (by have := HLE.out; have := HNN.out; omega)).mono ?_
          rintro e w4 ⟨rfl, hJ4, hB4, hK4⟩; have HJ4 := Aside0.mk hJ4; have HB4 := Aside0.mk hB4; have HI4 := Aside0.mk (HI3.out.keep HJ3.out (by decide) HNE.out hK4); clear hJ4 hB4 hK4 hHeld
          refine ⟨_, rfl, ?_⟩
          refine hK.out _ _ ⟨(HB4.out.cell HLT.out).trans HX0.out, Kd.C_below HC0.out HB4.out⟩ (fun hHeld => ?_)
          clear hK K; refine norm_ (a' := ?_) ?_ ?_
          rotate_left
          · show Act.put _ (some 57) _ = _; simp only [Act.put, sA, sB, sC, i64_w, i32_w]; rfl
          rw [show ([] ++ b : List Int) = b from rfl] at HI4 ⊢
          refine pure_ (i := 14) (N := some 58) (v := .bool false) (a' := ?_) #[true, true, true, true, true, true, true, true, true, true, true, true, true, true, true] rfl rfl (by kernel_rfl) (fun _ _ _ h => h) (Or.inl ⟨by rfl, ?_⟩) ?_ ?_
          · intro w'; first | (go_simp; done) | (go_simp; with_reducible rfl)
          rotate_left
          · simp only [Act.put, sA, sB, sC, i64_w, i32_w]; rfl
          refine done_ (by kernel_rfl) ?_
          go_wp2
          have hfl : (feedB bs tl b).length ≤ bs.length + b.length := by unfold feedB; split <;> (try split) <;> simp <;> omega
          have HFL := Aside0.mk (show ((feedB bs tl b).length : Int) ≤ 40000 by have := HLE.out; have := HNN.out; omega)
          have HFL2 := Aside0.mk (show ((feedB bs tl b).length : Int) ≤ n + b.length by have := HNN.out; omega)
          have HW2 := Aside0.mk hw2; clear hw1 hw2
          clear hfl hHeld HI9 HJ9 HB9 HQ9 HI1 HJ1 HB1 HQ1 HI3 HJ3 HB3 HI HJ HB hx HC hb9 hb9'
          go_loopg [7] 40 (fun q7 v7 wi => ∃ (k : Nat) (bs2 : List Int) (tl2 : Int), v7 = .int .i64 (k : Int) ∧ Aside0 (q7 + k = 40) ∧ Aside0 ((bs2.length : Int) ≤ n + b.length) ∧ Aside0 (FRd w wi ga bs2 tl2) ∧ Aside0 (RRd wi gb bs2 tl2) ∧ Aside0 (Below w.heap.size w wi))
          case atStart => exact ⟨0, _, _, rfl, ⟨by omega⟩, HFL2, HI4, HJ4, HB4⟩
          case round =>
            clear HI4 HJ4 HB4
            obtain ⟨k, bs2, tl2, rfl, HQ2, HL2, HI5, HJ5, HB5⟩ := hrel
            by_cases hk : k < 40
            · have hk1 : decide ((k : Int) < 40) = true := decide_eq_true (by omega)
              have hk2 : decide (k < 40) = true := decide_eq_true hk
              obtain ⟨x1, x2, x3, x4, x5, x6, x7, x8, okv, er, bs3, tl3, hl3, hA, hC⟩ := nxt_both HN.out bs2 tl2 (by have := HL2.out; have := HLE.out; have := HNN.out; omega)
              have HL3 := Aside0.mk (show (bs3.length : Int) ≤ n + b.length by have := HL2.out; omega)
              have HA := Aside0.mk hA; have HCC := Aside0.mk hC; have HKK := Aside0.mk hk; clear hl3 hA hC hk
              go_wp2_with (first | ((with_reducible refine gate_callee (f := 21) rfl ?_); refine goesL_ (some 65) rfl rfl Try.func21 (by kernel_rfl) rfl #[.pointer (some ⟨ga, 0, none⟩)] rfl (by (try simp only [List.map_toArray, List.map_cons, List.map_nil]); first | done | rfl) ?_; (with_reducible refine (HA.out w _ ga HI5.out HB5.out).mono ?_); rintro e_ w6 ⟨rfl, hI, hB, hK⟩; refine ⟨_, rfl, ?_⟩; have HI6 := Aside0.mk hI; have HB6 := Aside0.mk hB; have HJ6 := Aside0.mk (show RRd w6 gb bs2 tl2 from hK.2 gb _ _ HJ5.out (by decide) (fun he => HNE.out he.symm)); clear hI hB hK) | ((with_reducible refine gate_dst (N := 8) rfl ?_); refine bE 8 #[.bool false, .int .u8 0, .int .u16 0, .int .u32 0, .int .u64 0, .string ⟨#[]⟩, .string ⟨#[]⟩, .string ⟨#[]⟩] 31 rfl rfl ?_; intro gx hgx w7 hbox hb; have BX := Aside0.mk hbox; have HI7 := Aside0.mk (HI6.out.below hb); have HJ7 := Aside0.mk (HJ6.out.below hb); have HGX := Aside0.mk (show w.heap.size ≤ gx by rw [hgx]; exact HB6.out.size); have HB7 := Aside0.mk (below_step HB6.out hb); have HXA := Aside0.mk (HI7.out.blk BX.out (by decide)); have HXB := Aside0.mk (HJ7.out.blk BX.out (by decide)); clear hgx hbox hb; obtain ⟨hczx, hfzx⟩ := d8 BX) | ((with_reducible refine gate_callee (f := 22) rfl ?_); refine goesL_ (some 71) rfl rfl Try.func22 (by kernel_rfl) rfl #[.pointer (some ⟨gb, 0, none⟩)] rfl (by (try simp only [List.map_toArray, List.map_cons, List.map_nil]); first | done | rfl) ?_; have HI8 := Aside0.mk (HI7.out.keep (b := gx) (W' := ((((((((w7.setCell ⟨gx, 0, none⟩ (.bool x1)).setCell ⟨gx, 1, none⟩ (.int .u8 x2)).setCell ⟨gx, 2, none⟩ (.int .u16 x3)).setCell ⟨gx, 3, none⟩ (.int .u32 x4)).setCell ⟨gx, 4, none⟩ (.int .u64 x5)).setCell ⟨gx, 5, none⟩ (.string x6)).setCell ⟨gx, 6, none⟩ (.string x7)).setCell ⟨gx, 7, none⟩ (.string x8))) BX.out (by decide) HXA.out (by with_reducible repeat (first | exact KeepBut.refl _ _ _ | refine KeepBut.set_ ?_ _ _))); have HJ8 := Aside0.mk (show RRd ((((((((w7.setCell ⟨gx, 0, none⟩ (.bool x1)).setCell ⟨gx, 1, none⟩ (.int .u8 x2)).setCell ⟨gx, 2, none⟩ (.int .u16 x3)).setCell ⟨gx, 3, none⟩ (.int .u32 x4)).setCell ⟨gx, 4, none⟩ (.int .u64 x5)).setCell ⟨gx, 5, none⟩ (.string x6)).setCell ⟨gx, 6, none⟩ (.string x7)).setCell ⟨gx, 7, none⟩ (.string x8)) gb bs2 tl2 from bK (w := w7) HJ7.out); have HB8 := Aside0.mk (show Below w.heap.size w ((((((((w7.setCell ⟨gx, 0, none⟩ (.bool x1)).setCell ⟨gx, 1, none⟩ (.int .u8 x2)).setCell ⟨gx, 2, none⟩ (.int .u16 x3)).setCell ⟨gx, 3, none⟩ (.int .u32 x4)).setCell ⟨gx, 4, none⟩ (.int .u64 x5)).setCell ⟨gx, 5, none⟩ (.string x6)).setCell ⟨gx, 6, none⟩ (.string x7)).setCell ⟨gx, 7, none⟩ (.string x8)) from bH HB7.out); have BX8 := Aside0.mk (show (((((((((w7.setCell ⟨gx, 0, none⟩ (.bool x1)).setCell ⟨gx, 1, none⟩ (.int .u8 x2)).setCell ⟨gx, 2, none⟩ (.int .u16 x3)).setCell ⟨gx, 3, none⟩ (.int .u32 x4)).setCell ⟨gx, 4, none⟩ (.int .u64 x5)).setCell ⟨gx, 5, none⟩ (.string x6)).setCell ⟨gx, 6, none⟩ (.string x7)).setCell ⟨gx, 7, none⟩ (.string x8))).heap[gx]? = some (.cells #[.bool x1, .int .u8 x2, .int .u16 x3, .int .u32 x4, .int .u64 x5, .string x6, .string x7, .string x8] 31 (0, 0)) from bV BX.out); (with_reducible refine (HCC.out w _ gb HJ8.out HB8.out HGB.out).mono ?_); rintro e_ w9 ⟨rfl, hJ, hB, hK⟩; refine ⟨_, rfl, ?_⟩; have BX9 := Aside0.mk ((hK.2 gx (blk_lt BX8.out) (fun he => HXB.out he.symm) (by simp)).trans BX8.out); have HI9 := Aside0.mk (HI8.out.keep HJ8.out (by decide) HNE.out hK); have HJ9 := Aside0.mk hJ; have HB9 := Aside0.mk hB; clear hJ hB hK) | ((with_reducible refine gate_dst (N := 11) rfl ?_); refine bE 11 #[.bool false, .int .u8 0, .int .u16 0, .int .u32 0, .int .u64 0, .string ⟨#[]⟩, .string ⟨#[]⟩, .string ⟨#[]⟩] 26 rfl rfl ?_; intro gy hgy w10 hbox hb; have BY := Aside0.mk hbox; have HI10 := Aside0.mk (HI9.out.below hb); have HJ10 := Aside0.mk (HJ9.out.below hb); have BX10 := Aside0.mk (blk_below BX9.out hb); have HGY := Aside0.mk (show w.heap.size ≤ gy by rw [hgy]; exact HB9.out.size); have HB10 := Aside0.mk (below_step HB9.out hb); have HYA := Aside0.mk (HI10.out.blk BY.out (by decide)); have HYB := Aside0.mk (HJ10.out.blk BY.out (by decide)); have HXY := Aside0.mk (show gx ≠ gy from fun he => by have := blk_lt BX9.out; omega); have HYX := rY HXY; clear hgy hbox hb; obtain ⟨hczy, hfzy⟩ := d8 BY))
              obtain ⟨w11, hw11⟩ : ∃ w11, w11 = ((((((((w10.setCell ⟨gy, 0, none⟩ (.bool x1)).setCell ⟨gy, 1, none⟩ (.int .u8 x2)).setCell ⟨gy, 2, none⟩ (.int .u16 x3)).setCell ⟨gy, 3, none⟩ (.int .u32 x4)).setCell ⟨gy, 4, none⟩ (.int .u64 x5)).setCell ⟨gy, 5, none⟩ (.string x6)).setCell ⟨gy, 6, none⟩ (.string x7)).setCell ⟨gy, 7, none⟩ (.string x8)) := ⟨_, rfl⟩
              have HI11 := Aside0.mk (show FRd w w11 ga bs3 tl3 by rw [hw11]; exact HI10.out.keep (b := gy) BY.out (by decide) HYA.out (by with_reducible repeat (first | exact KeepBut.refl _ _ _ | refine KeepBut.set_ ?_ _ _)))
              have HJ11 := Aside0.mk (show RRd w11 gb bs3 tl3 by rw [hw11]; exact bK (w := w10) HJ10.out)
              have HB11 := Aside0.mk (show Below w.heap.size w w11 by rw [hw11]; exact bH HB10.out)
              have BX11 := Aside0.mk (show w11.heap[gx]? = some (.cells #[.bool x1, .int .u8 x2, .int .u16 x3, .int .u32 x4, .int .u64 x5, .string x6, .string x7, .string x8] 31 (0, 0)) by rw [hw11]; exact bK BX10.out)
              have BY11 := Aside0.mk (show w11.heap[gy]? = some (.cells #[.bool x1, .int .u8 x2, .int .u16 x3, .int .u32 x4, .int .u64 x5, .string x6, .string x7, .string x8] 26 (0, 0)) by rw [hw11]; exact bV BY.out)
              rw [← hw11]; clear hw11 hczx hfzx hczy hfzy
              refine start_ (n := 14) (S := fun w' => w'.heap[gx]? = some (.cells #[.bool x1, .int .u8 x2, .int .u16 x3, .int .u32 x4, .int .u64 x5, .string x6, .string x7, .string x8] 31 (0, 0)) ∧ w'.heap[gy]? = some (.cells #[.bool x1, .int .u8 x2, .int .u16 x3, .int .u32 x4, .int .u64 x5, .string x6, .string x7, .string x8] 26 (0, 0))) (ds := []) #[false, false, false, false, false, false, false, false, false, false, false, false, false, false] (by kernel_rfl) rfl rfl ⟨BX11.out, BY11.out⟩ (fun hHeld => ?_)
              refine take_ (i := 0) (N := some 75) (v := .agg #[.bool x1, .int .u8 x2, .int .u16 x3, .int .u32 x4, .int .u64 x5, .string x6, .string x7, .string x8]) (a' := ?_) #[true, false, false, false, false, false, false, false, false, false, false, false, false, false] rfl rfl (by kernel_rfl) (fun _ _ _ h => h) (Or.inl ⟨by rfl, ?_⟩) hHeld ?_ ?_
              · intro w' hHw; obtain ⟨hcx_, hfx_⟩ := d8 (Aside0.mk hHw.1); obtain ⟨hcy_, hfy_⟩ := d8 (Aside0.mk hHw.2); first | (go_simp; done) | (go_simp; with_reducible rfl)
              rotate_left
              · simp only [Act.put, sA, sB, sC, i64_w, i32_w]; rfl
              refine take_ (i := 2) (N := some 77) (v := .agg #[.bool x1, .int .u8 x2, .int .u16 x3, .int .u32 x4, .int .u64 x5, .string x6, .string x7, .string x8]) (a' := ?_) #[true, false, true, false, false, false, false, false, false, false, false, false, false, false] rfl rfl (by kernel_rfl) (fun _ _ _ h => h) (Or.inl ⟨by rfl, ?_⟩) hHeld ?_ ?_
              · intro w' hHw; obtain ⟨hcx_, hfx_⟩ := d8 (Aside0.mk hHw.1); obtain ⟨hcy_, hfy_⟩ := d8 (Aside0.mk hHw.2); first | (go_simp; done) | (go_simp; with_reducible rfl)
              rotate_left
              · simp only [Act.put, sA, sB, sC, i64_w, i32_w]; rfl
              refine one_ (i := 1) (N := some 76) #[true, true, true, false, false, false, false, false, false, false, false, false, false, false] rfl rfl (by kernel_rfl) (by decide) (fun K hK => ?_)
              refine goes_ Try.func17 (by kernel_rfl) rfl #[.agg #[.bool x1, .int .u8 x2, .int .u16 x3, .int .u32 x4, .int .u64 x5, .string x6, .string x7, .string x8]] (by rfl) rfl rfl (by (try simp only [List.map_toArray, List.map_cons, List.map_nil]); first | done | rfl) ?_
              refine (tallboylaw29_From.calls x1 x2 x3 x4 x5 x6 x7 x8 x1 x2 x3 x4 x5 x6 x7 x8 _ rfl).mono ?_
              rintro e w12 ⟨rfl, hb⟩; have HI12 := Aside0.mk (FRd.below (W := w11.drew) HI11.out hb); have HJ12 := Aside0.mk (RRd.below (W := w11.drew) HJ11.out hb); have HB12 := Aside0.mk (below_step (below_drew1 HB11.out) hb); have hS12 := And.intro (blk_below hHeld.1 hb) (blk_below hHeld.2 hb); clear hb hHeld
              refine ⟨_, rfl, ?_⟩
              refine hK.out _ _ hS12 (fun hHeld => ?_)
              clear hK K; refine norm_ (a' := ?_) ?_ ?_
              rotate_left
              · show Act.put _ (some 76) _ = _; simp only [Act.put, sA, sB, sC, i64_w, i32_w]; rfl
              refine pure_ (i := 3) (N := some 78) (v := .bool false) (a' := ?_) #[true, true, true, true, false, false, false, false, false, false, false, false, false, false] rfl rfl (by kernel_rfl) (fun _ _ _ h => h) (Or.inl ⟨by rfl, ?_⟩) ?_ ?_
              · intro w'; first | (go_simp; done) | (go_simp; with_reducible rfl)
              rotate_left
              · simp only [Act.put, sA, sB, sC, i64_w, i32_w]; rfl
              refine pure_ (i := 4) (N := some 79) (v := .bool false) (a' := ?_) #[true, true, true, true, true, false, false, false, false, false, false, false, false, false] rfl rfl (by kernel_rfl) (fun _ _ _ h => h) (Or.inl ⟨by rfl, ?_⟩) ?_ ?_
              · intro w'; first | (go_simp; done) | (go_simp; with_reducible rfl)
              rotate_left
              · simp only [Act.put, sA, sB, sC, i64_w, i32_w]; rfl
              refine pure_ (i := 5) (N := some 80) (v := .bool okv) (a' := ?_) #[true, true, true, true, true, true, false, false, false, false, false, false, false, false] rfl rfl (by kernel_rfl) (fun _ _ _ h => h) (Or.inl ⟨by rfl, ?_⟩) ?_ ?_
              · intro w'; first | (go_simp; done) | (go_simp; with_reducible rfl)
              rotate_left
              · simp only [Act.put, sA, sB, sC, i64_w, i32_w]; rfl
              refine pure_ (i := 6) (N := some 81) (v := .bool okv) (a' := ?_) #[true, true, true, true, true, true, true, false, false, false, false, false, false, false] rfl rfl (by kernel_rfl) (fun _ _ _ h => h) (Or.inl ⟨by rfl, ?_⟩) ?_ ?_
              · intro w'; first | (go_simp; done) | (go_simp; with_reducible rfl)
              rotate_left
              · simp only [Act.put, sA, sB, sC, i64_w, i32_w]; rfl
              refine pure_ (i := 7) (N := some 82) (v := .bool false) (a' := ?_) #[true, true, true, true, true, true, true, true, false, false, false, false, false, false] rfl rfl (by kernel_rfl) (fun _ _ _ h => h) (Or.inl ⟨by rfl, ?_⟩) ?_ ?_
              · intro w'; first | (go_simp; done) | (go_simp; with_reducible rfl)
              rotate_left
              · simp only [Act.put, sA, sB, sC, i64_w, i32_w]; rfl
              refine pure_ (i := 8) (N := some 83) (v := .bool false) (a' := ?_) #[true, true, true, true, true, true, true, true, true, false, false, false, false, false] rfl rfl (by kernel_rfl) (fun _ _ _ h => h) (Or.inl ⟨by rfl, ?_⟩) ?_ ?_
              · intro w'; first | (go_simp; done) | (go_simp; with_reducible rfl)
              rotate_left
              · simp only [Act.put, sA, sB, sC, i64_w, i32_w]; rfl
              refine pure_ (i := 9) (N := some 84) (v := .bool false) (a' := ?_) #[true, true, true, true, true, true, true, true, true, true, false, false, false, false] rfl rfl (by kernel_rfl) (fun _ _ _ h => h) (Or.inl ⟨by rfl, ?_⟩) ?_ ?_
              · intro w'; first | (go_simp; done) | (go_simp; with_reducible rfl)
              rotate_left
              · simp only [Act.put, sA, sB, sC, i64_w, i32_w]; rfl
              refine pure_ (i := 10) (N := some 85) (v := .int .i64 er) (a' := ?_) #[true, true, true, true, true, true, true, true, true, true, true, false, false, false] rfl rfl (by kernel_rfl) (fun _ _ _ h => h) (Or.inl ⟨by rfl, ?_⟩) ?_ ?_
              · intro w'; first | (go_simp; done) | (go_simp; with_reducible rfl)
              rotate_left
              · simp only [Act.put, sA, sB, sC, i64_w, i32_w]; rfl
              refine pure_ (i := 11) (N := some 86) (v := .int .i64 er) (a' := ?_) #[true, true, true, true, true, true, true, true, true, true, true, true, false, false] rfl rfl (by kernel_rfl) (fun _ _ _ h => h) (Or.inl ⟨by rfl, ?_⟩) ?_ ?_
              · intro w'; first | (go_simp; done) | (go_simp; with_reducible rfl)
              rotate_left
              · simp only [Act.put, sA, sB, sC, i64_w, i32_w]; rfl
              refine pure_ (i := 12) (N := some 87) (v := .bool false) (a' := ?_) #[true, true, true, true, true, true, true, true, true, true, true, true, true, false] rfl rfl (by kernel_rfl) (fun _ _ _ h => h) (Or.inl ⟨by rfl, ?_⟩) ?_ ?_
              · intro w'; first | (go_simp; done) | (go_simp; with_reducible rfl)
              rotate_left
              · simp only [Act.put, sA, sB, sC, i64_w, i32_w]; rfl
              refine pure_ (i := 13) (N := some 88) (v := .bool false) (a' := ?_) #[true, true, true, true, true, true, true, true, true, true, true, true, true, true] rfl rfl (by kernel_rfl) (fun _ _ _ h => h) (Or.inl ⟨by rfl, ?_⟩) ?_ ?_
              · intro w'; first | (go_simp; done) | (go_simp; with_reducible rfl)
              rotate_left
              · simp only [Act.put, sA, sB, sC, i64_w, i32_w]; rfl
              refine done_ (by kernel_rfl) ?_
              clear hHeld hS12
              cases okv with
              | true =>
                obtain ⟨q1, hq1⟩ : ∃ q1, gk = q1 + 1 := ⟨40 - k - 1, by have := HQ2.out; have := HKK.out; omega⟩
                subst hq1
                have hwk : wrap64 ((k : Int) + 1) = ((k + 1 : Nat) : Int) := by have := HKK.out; unfold wrap64; omega
                go_wp2
                go_roundg q1
                case measure => omega
                case rel => exact ⟨k + 1, bs3, tl3, congrArg (Value.int .i64) hwk, ⟨by have := HQ2.out; omega⟩, HL3, HI12, HJ12, HB12⟩
              | false =>
                go_wp2
                go_roundg qo
                case measure => omega
                case rel => exact ⟨n + (b.length : Int), i + 1, bs3, tl3, congrArg (Value.int .i64) HW2.out, congrArg (Value.int .i64) hwi, ⟨by have := HQ.out; omega⟩, ⟨by have := HNN.out; have := HLE.out; have := HL3.out; omega⟩, HI12, HJ12, HB12⟩
            · have hk1 : decide ((k : Int) < 40) = false := decide_eq_false (by omega)
              have hk2 : decide (k < 40) = false := decide_eq_false hk
              clear hk
              go_wp2
              go_roundg qo
              case measure => omega
              case rel => exact ⟨n + (b.length : Int), i + 1, bs2, tl2, congrArg (Value.int .i64) HW2.out, congrArg (Value.int .i64) hwi, ⟨by have := HQ.out; omega⟩, ⟨by have := HNN.out; have := HLE.out; have := HL2.out; omega⟩, HI5, HJ5, HB5⟩
      · have hd1 : decide ((i : Int) < (n0 : Int)) = true := decide_eq_true (by omega)
        have hd1b : decide (i < n0) = true := decide_eq_true h1
        have hd2 : decide ((i : Int) < 60) = false := decide_eq_false (by omega)
        have hd2b : decide (i < 60) = false := decide_eq_false h2
        clear h1 h2
        go_wp2
        go_ret
        exact ⟨rfl, HB.out⟩
    · have hd1 : decide ((i : Int) < (n0 : Int)) = false := decide_eq_false (by omega)
      have hd1b : decide (i < n0) = false := decide_eq_false h1
      clear h1
      go_wp2
      go_ret
      exact ⟨rfl, HB.out⟩
end Go.Proofs.Ytdepkgikdmlgiaa.P
