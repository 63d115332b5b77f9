/- FrameReads' walk: whatever bytes come, both readers say the same. Condition: what both Unpacks say is the same (Nxt). -/
import Derived.Test.YtdepkgikdmlgiaaFr4
import Derived.Test.YtdepkgikdmlgiaaPx11
namespace Go.Proofs.Ytdepkgikdmlgiaa.P
open Go.RowKit Go.Proofs.YtdepkgikdmlgiaaW.PrintWords Go.Proofs.YtdepkgikdmlgiaaW.PrintLast Go.Proofs.YtdepkgikdmlgiaaW.PrintMore
set_option linter.unusedVariables false
set_option linter.unusedSimpArgs false
set_option maxHeartbeats 1000000 in
theorem FRd.new (w0 w : World) (hB : Below w0.heap.size w0 w) :
    Calls Try.prog 18 #[] w fun e w' => ∃ g, e = .returned (.pointer (some ⟨g, 0, none⟩)) ∧ FRd w0 w' g [] 0 ∧ Below w0.heap.size w0 w' := by
  have HB := Aside0.mk hB
  clear hB
  go_enter Try.func18, Try.ntmps18
  go_wp2
  go_ret
  exact ⟨_, rfl, ⟨none, 0, by simpa using blk_new w (.cells #[.slice none 0 0, .int .i64 0] 95), HB.out.size, Kd.Q_nil _ _ _ _ _⟩, below_alloc HB.out _⟩
theorem FRd.step {w0 W W9 w1 : World} {g b : Nat} {bs : List Int} {tl : Int} (h : FRd w0 W g bs tl) (hb : Below W.heap.size W W9) (hg : W9.grownBy w1 (some b)) (hlt : W.heap.size ≤ b) : FRd w0 w1 g bs tl := by
  obtain ⟨A, c, h1, h2, h3⟩ := h
  have hl := blk_lt h1
  exact ⟨A, c, blk_grown (blk_below h1 hb) hg (fun he => by injection he with he; omega), h2, Kd.Q_mono (Kd.Q_grown (Kd.Q_below (Kd.Q_bound h3) hb) hg (fun k hk he => by injection he with he; have := hk.2.2.1; omega)) (fun _ h => h.1)⟩
theorem RRd.step {W W9 w1 : World} {g b : Nat} {bs : List Int} {tl : Int} (h : RRd W g bs tl) (hb : Below W.heap.size W W9) (hg : W9.grownBy w1 (some b)) (hlt : W.heap.size ≤ b) : RRd w1 g bs tl :=
  blk_grown (blk_below h hb) hg (fun he => by injection he with he; have := blk_lt h; omega)
end Go.Proofs.Ytdepkgikdmlgiaa.P
