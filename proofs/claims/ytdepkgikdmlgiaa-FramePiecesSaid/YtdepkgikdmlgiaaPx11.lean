/- Lean functions for the Go functions that the laws of this seat use, and the proofs that the Go code computes them; conditions: the readings that each theorem names. Written by a program. -/
import Derived.Test.YtdepkgikdmlgiaaPx0
import Derived.Test.YtdepkgikdmlgiaaShort
namespace Go.Proofs.Ytdepkgikdmlgiaa.P
open Go.RowKit Go.Proofs.YtdepkgikdmlgiaaW.PrintWords Go.Proofs.YtdepkgikdmlgiaaW.PrintLast Go.Proofs.YtdepkgikdmlgiaaW.PrintMore
set_option linter.unusedVariables false
set_option linter.unusedSimpArgs false

/-! ### tallboylaw29_From: function 17 -/
def tallboylaw29_From.f (a0_0 : Bool) (a0_1 : Int) (a0_2 : Int) (a0_3 : Int) (a0_4 : Int) (a0_5 : ByteArray) (a0_6 : ByteArray) (a0_7 : ByteArray) : Option (Bool × Int × Int × Int × Int × ByteArray × ByteArray × ByteArray) := some (a0_0, a0_1, a0_2, a0_3, a0_4, a0_5, a0_6, a0_7)
set_option maxHeartbeats 8000000 in
set_option maxRecDepth 100000 in
theorem tallboylaw29_From.calls (a0_0 : Bool) (a0_1 : Int) (a0_2 : Int) (a0_3 : Int) (a0_4 : Int) (a0_5 : ByteArray) (a0_6 : ByteArray) (a0_7 : ByteArray) (r1 : Bool) (r2 : Int) (r3 : Int) (r4 : Int) (r5 : Int) (r6 : ByteArray) (r7 : ByteArray) (r8 : ByteArray) (w : World) (h : tallboylaw29_From.f a0_0 a0_1 a0_2 a0_3 a0_4 a0_5 a0_6 a0_7 = some (r1, r2, r3, r4, r5, r6, r7, r8)) :
  Calls Try.prog 17 #[.agg #[.bool a0_0, .int .u8 a0_1, .int .u16 a0_2, .int .u32 a0_3, .int .u64 a0_4, .string a0_5, .string a0_6, .string a0_7]] w fun e w' => e = .returned (.agg #[.bool r1, .int .u8 r2, .int .u16 r3, .int .u32 r4, .int .u64 r5, .string r6, .string r7, .string r8]) ∧ Below w.heap.size w w' := by
 have hu31 := Try.underlying31; have hu26 := Try.underlying26; have HB := Aside0.mk (Below.refl w.heap.size w); have H : (some (a0_0, a0_1, a0_2, a0_3, a0_4, a0_5, a0_6, a0_7)) = some (r1, r2, r3, r4, r5, r6, r7, r8) := h; clear h; simp only [Option.some.injEq, Prod.mk.injEq] at H; obtain ⟨rfl, rfl, rfl, rfl, rfl, rfl, rfl, rfl⟩ := H; go_enter Try.func17, Try.ntmps17
 go_wp2_with (first | ((with_reducible refine gate_dst (N := 1) rfl ?_); refine bE 1 #[.bool a0_0, .int .u8 a0_1, .int .u16 a0_2, .int .u32 a0_3, .int .u64 a0_4, .string a0_5, .string a0_6, .string a0_7] 31 rfl rfl ?_; intro gb136 hg w2 hbox hb; have BK136 := rM hbox; have GW136 := rG HB hg; replace HB := rS HB hb; have GE136 := GW136; clear hb hbox hg) | ((with_reducible refine gate_dst (N := 2) rfl ?_); refine bE 2 #[.bool false, .int .u8 0, .int .u16 0, .int .u32 0, .int .u64 0, .string (⟨#[]⟩ : ByteArray), .string (⟨#[]⟩ : ByteArray), .string (⟨#[]⟩ : ByteArray)] 26 rfl rfl ?_; intro gb137 hg w3 hbox hb; have BK137 := rM hbox; have GW137 := rG HB hg; replace HB := rS HB hb; have GE137 := GW137; have NB136_137 := rN BK136 hg; replace BK136 := rB BK136 hb; have NB137_136 := rY NB136_137; clear hb hbox hg; have hnb4 := rP NB136_137 NB137_136; obtain ⟨hcz5, hfz5⟩ := d8 BK136; obtain ⟨hcz6, hfz6⟩ := d8 BK137))
 refine bodyPost_ret (results_cell_row rfl _ _ gb137 26 #[.bool a0_0, .int .u8 a0_1, .int .u16 a0_2, .int .u32 a0_3, .int .u64 a0_4, .string a0_5, .string a0_6, .string a0_7] (0, 0) _ rfl (bV BK137.out) Try.underlying26 rfl (by kernel_rfl)) rfl ?_
 exact ⟨xR, bH HB.out⟩

end Go.Proofs.Ytdepkgikdmlgiaa.P
