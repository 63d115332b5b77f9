/- Lean functions for the Go functions that the laws of this seat use, and the proofs that the Go code computes them; conditions: the readings that each theorem names. Written by a program. -/
import Derived.Test.YtdepkgikdmlgiaaPx0
import Derived.Test.YtdepkgikdmlgiaaPx3
import Derived.Test.YtdepkgikdmlgiaaShort
import Derived.StillTailTactics
namespace Go.Proofs.Ytdepkgikdmlgiaa.P
open Go.RowKit Go.Proofs.YtdepkgikdmlgiaaW.PrintWords Go.Proofs.YtdepkgikdmlgiaaW.PrintLast Go.Proofs.YtdepkgikdmlgiaaW.PrintMore
set_option linter.unusedVariables false
set_option linter.unusedSimpArgs false

-- HAND
-- FN tallboy/frame.Pack
-- ROUNDS 0
-- MAKING 1
-- NEEDS tallboy/frame.put tallboy/frame.fits
-- IMPORT Derived.StillTailTactics
/-! ### frame.Pack: an array of bytes in memory -/
def frame_Pack.putw : List Int → Nat → Int → Nat → List Int
 | cs, _, _, 0 => cs
 | cs, lo, v, n + 1 => frame_Pack.putw (cs.set (lo + n) (v % 256)) lo (v / 256) n
theorem frame_Pack.putw_length (n : Nat) : ∀ (cs : List Int) (lo : Nat) (v : Int), (frame_Pack.putw cs lo v n).length = cs.length := by
 induction n with
 | zero => intro cs lo v; rfl
 | succ n ih => intro cs lo v; rw [frame_Pack.putw, ih, List.length_set]
def frame_Pack.cells (cs : List Int) : Array Value := (cs.map (Value.int .u8)).toArray
theorem frame_Pack.cells_set (cs : List Int) (i : Nat) (x : Int) : (frame_Pack.cells cs).setIfInBounds i (.int .u8 x) = frame_Pack.cells (cs.set i x) := by
 unfold frame_Pack.cells; rw [List.setIfInBounds_toArray, List.map_set]
theorem frame_Pack.cells_get (cs : List Int) (i : Nat) (h : i < cs.length) : (frame_Pack.cells cs)[i]? = some (.int .u8 (cs.getD i 0)) := by
 unfold frame_Pack.cells; simp [List.getElem?_eq_getElem h, List.getD_eq_getElem?_getD]
def frame_Pack.head (a0_0 : Bool) (a0_1 : Int) (a0_2 : Int) (a0_3 : Int) (a0_4 : Int) (a0_5 : ByteArray) (a0_6 : ByteArray) (a0_7 : ByteArray) : List Int :=
 frame_Pack.putw (frame_Pack.putw (frame_Pack.putw (frame_Pack.putw (frame_Pack.putw (frame_Pack.putw ((if a0_0 = true then ((List.replicate 24 0).set 0 128).set 0 129 else (List.replicate 24 0).set 0 128).set 1 a0_1) 2 (IntKind.u64.wrap (a0_6.size : Int)) 2) 4 (IntKind.u64.wrap (a0_5.size : Int)) 1) 6 (IntKind.u64.wrap a0_2) 2) 8 (IntKind.u64.wrap (wrap64 ((wrap64 ((a0_5.size : Int) + (a0_6.size : Int))) + (a0_7.size : Int)))) 4) 12 (IntKind.u64.wrap a0_3) 4) 16 a0_4 8
def frame_Pack.f (a0_0 : Bool) (a0_1 : Int) (a0_2 : Int) (a0_3 : Int) (a0_4 : Int) (a0_5 : ByteArray) (a0_6 : ByteArray) (a0_7 : ByteArray) : Option (ByteArray × Int) :=
 (frame_fits.f (a0_6.size : Int) (a0_5.size : Int) (a0_7.size : Int)).bind fun t =>
  if t = true then (if a0_0 = true ∨ a0_2 = 0 then (if (strOfNums (frame_Pack.head a0_0 a0_1 a0_2 a0_3 a0_4 a0_5 a0_6 a0_7)).size + a0_5.size + a0_6.size + a0_7.size ≤ 9223372036854775807 then some (strOfNums (frame_Pack.head a0_0 a0_1 a0_2 a0_3 a0_4 a0_5 a0_6 a0_7) ++ a0_5 ++ a0_6 ++ a0_7, 0) else none) else some ((⟨#[]⟩ : ByteArray), 7)) else some ((⟨#[]⟩ : ByteArray), 7)
set_option maxHeartbeats 8000000 in
set_option maxRecDepth 100000 in
theorem frame_Pack.put (g lo n cap : Nat) (cs : List Int) (v : Int) (t : TypeId) (w : World) (hb : w.heap[g]? = some (.cells (frame_Pack.cells cs) t (0, 0))) (hn : lo + n ≤ cs.length) (hm : n ≤ 9223372036854775807) :
  Calls Try.prog 38 #[.slice (some ⟨g, lo, none⟩) n cap, .int .u64 v] w fun e w' => e = .returned (.tuple #[]) ∧ w'.heap[g]? = some (.cells (frame_Pack.cells (frame_Pack.putw cs lo v n)) t (0, 0)) ∧ (∀ (g' : Nat) (t' : TypeId) (o : Array Value), g' ≠ g → w.heap[g']? = some (.cells o t' (0, 0)) → w'.heap[g']? = some (.cells o t' (0, 0))) ∧ (∀ w0 : World, Below w0.heap.size w0 w → w0.heap.size ≤ g → Below w0.heap.size w0 w') := by
 have BK := Aside0.mk hb; have HN := Aside0.mk hn; have HM := Aside0.mk hm; clear hb hn hm; go_enter Try.func38, Try.ntmps38; go_wp2
 go_loopw [1, 7] (fun v1 v7 w' => ∃ (i : Nat) (x : Int) (ds : List Int), i ≤ n ∧ v1 = .int .u64 x ∧ v7 = .int .i64 i ∧ Aside0 (frame_Pack.putw ds lo x (n - i) = frame_Pack.putw cs lo v n) ∧ Aside0 (ds.length = cs.length) ∧ Aside0 (w'.heap[g]? = some (.cells (frame_Pack.cells ds) t (0, 0))) ∧ Aside0 (∀ (g' : Nat) (t' : TypeId) (o : Array Value), g' ≠ g → w.heap[g']? = some (.cells o t' (0, 0)) → w'.heap[g']? = some (.cells o t' (0, 0))) ∧ Aside0 (∀ w0 : World, Below w0.heap.size w0 w → w0.heap.size ≤ g → Below w0.heap.size w0 w')) (fun _ v7 _ => n - (intOf v7).toNat)
 case atStart => exact ⟨0, v, cs, Nat.zero_le _, rfl, rfl, ⟨rfl⟩, ⟨rfl⟩, BK, ⟨fun _ _ _ _ h => h⟩, ⟨fun _ h _ => h⟩⟩
 case round =>
  clear BK; obtain ⟨i, x, ds, hi, rfl, rfl, HP, HD, BK, HO, HB⟩ := hrel; have HN2 := HN.out; have HM2 := HM.out; have HD2 := HD.out
  by_cases hlt : i < n
  ·have hlt' : (i : Int) < (n : Int) := by omega
   obtain ⟨ji, hji⟩ : ∃ j_ : Int, wrap64 (wrap64 ((n : Int) - 1) - (i : Int)) = j_ := ⟨_, rfl⟩; have hjv : ji = (n : Int) - 1 - (i : Int) := by rw [← hji]; unfold wrap64; omega
   have hjn : n - i = ji.toNat + 1 := by omega
   have hlo : lo + ji.toNat < ds.length := by omega
   have hnn : n - (i + 1) = ji.toNat := by omega
   have hP := HP.out; rw [hjn, frame_Pack.putw] at hP; have HP2 := Aside0.mk hP; have HNN := Aside0.mk hnn; obtain ⟨ii, hii⟩ : ∃ i_ : Int, wrap64 ((i : Int) + 1) = i_ := ⟨_, rfl⟩; have H3 := Aside0.mk (show ii = ((i + 1 : Nat) : Int) by rw [← hii]; unfold wrap64; omega); have hiw : IntKind.i64.wrap ((i : Int) + 1) = ii := (i64_w _).trans hii; have p8 : (0 ≤ ji) = True := eq_true (by omega); have q8 : (ji < (n : Int)) = True := eq_true (by omega); have HI := Aside0.mk hlt; clear hP HP hjv hjn hnn hi hlt HN2 HM2; have hjw : IntKind.i64.wrap (wrap64 ((n : Int) - 1) - (i : Int)) = ji := (i64_w _).trans hji; have hb0 : decide ((i : Int) < (n : Int)) = true := decide_eq_true hlt'; have hb1 : decide (i < n) = true := decide_eq_true HI.out; clear hlt'; have hc1 : wr.cell? ⟨g, lo + ji.toNat, none⟩ = some (.int .u8 (ds.getD (lo + ji.toNat) 0)) := (blk_cell BK.out (lo + ji.toNat)).trans (frame_Pack.cells_get ds (lo + ji.toNat) hlo); have hf1 : wr.frozen? ⟨g, lo + ji.toNat, none⟩ = false := blk_frozen BK.out (lo + ji.toNat); clear hlo; go_wp2
   go_roundw
   case rel => exact ⟨i + 1, x / 256, ds.set (lo + ji.toNat) (x % 256), HI.out, rfl, congrArg (Value.int .i64) H3.out, ⟨by rw [HNN.out]; exact HP2.out⟩, ⟨by rw [List.length_set]; exact HD2⟩, ⟨blk_put BK.out (lo + ji.toNat) _ (frame_Pack.cells_set ds (lo + ji.toNat) (x % 256))⟩, ⟨fun g' t' o hne h => blk_far (HO.out g' t' o hne h) hne _⟩, ⟨fun w0 h hg => eS (HB.out w0 h hg) hg⟩⟩
   case measure =>
    have h1 := HI.out; have h3 := H3.out
    show n - ii.toNat < n - ((i : Int)).toNat
    rw [h3, Int.toNat_natCast, Int.toNat_natCast]; exact Nat.sub_lt_sub_left h1 (Nat.lt_succ_self i)
  ·obtain rfl : i = n := by omega
   have hP := HP.out; rw [Nat.sub_self, frame_Pack.putw] at hP; have HP2 := Aside0.mk hP; have hb0 : decide ((i : Int) < (i : Int)) = false := decide_eq_false (by omega); have hb1 : decide (i < i) = false := decide_eq_false (by omega); clear hP HP HN2 HM2 HD2 hi hlt; go_wp2
   first | go_end0 | ((try simp only [Exit.inBlock, Exit.then]); refine bodyPost_ret (results_none rfl _ _ _) rfl ?_)
   exact ⟨rfl, by rw [← HP2.out]; exact BK.out, HO.out, HB.out⟩
theorem frame_Pack.fresh : frame_Pack.cells (List.replicate 24 0) = #[.int .u8 0, .int .u8 0, .int .u8 0, .int .u8 0, .int .u8 0, .int .u8 0, .int .u8 0, .int .u8 0, .int .u8 0, .int .u8 0, .int .u8 0, .int .u8 0, .int .u8 0, .int .u8 0, .int .u8 0, .int .u8 0, .int .u8 0, .int .u8 0, .int .u8 0, .int .u8 0, .int .u8 0, .int .u8 0, .int .u8 0, .int .u8 0] := rfl
theorem frame_Pack.conv (w : World) (g : Nat) (cs : List Int) (t : TypeId) (h : w.heap[g]? = some (.cells (frame_Pack.cells cs) t (0, 0))) (hl : cs.length = 24) : (Go.convert 46 9 (.slice (some ⟨g, 0, none⟩) 24 24)).run Try.prog w = .ok (.string (strOfNums cs)) w := by
 refine run_convert_bytes_arg w 46 5 Try.underlying46 Try.underlying5 g 0 24 24 cs hl (fun i hi => ?_) 9 Try.underlying9
 rw [Nat.zero_add]; exact (blk_cell h i).trans (frame_Pack.cells_get cs i (by omega))
set_option maxHeartbeats 8000000 in
set_option maxRecDepth 100000 in
theorem frame_Pack.calls (a0_0 : Bool) (a0_1 : Int) (a0_2 : Int) (a0_3 : Int) (a0_4 : Int) (a0_5 : ByteArray) (a0_6 : ByteArray) (a0_7 : ByteArray) (r1 : ByteArray) (r2 : Int) (w : World) (h : frame_Pack.f a0_0 a0_1 a0_2 a0_3 a0_4 a0_5 a0_6 a0_7 = some (r1, r2)) :
  Calls Try.prog 12 #[.agg #[.bool a0_0, .int .u8 a0_1, .int .u16 a0_2, .int .u32 a0_3, .int .u64 a0_4, .string a0_5, .string a0_6, .string a0_7]] w fun e w' => e = .returned (.tuple #[.string r1, .int .i64 r2]) ∧ Below w.heap.size w w' := by
 have huF := Try.underlying31; obtain ⟨t, hf, h1⟩ := Option.bind_eq_some_iff.mp h; have HF := Aside0.mk hf; have HR := Aside0.mk h1; clear hf h1 h; have HB := Aside0.mk (Below.refl w.heap.size w); cases t with
 | false =>
  have H1 := HR.out; rw [if_neg (by decide)] at H1; obtain ⟨rfl, rfl⟩ := Prod.mk.inj (Option.some.inj H1); clear H1 HR; go_enter Try.func12, Try.ntmps12
  go_wp2_with (first | ((with_reducible refine gate_dst (N := 1) rfl ?_); refine bE 1 #[.bool a0_0, .int .u8 a0_1, .int .u16 a0_2, .int .u32 a0_3, .int .u64 a0_4, .string a0_5, .string a0_6, .string a0_7] 31 rfl rfl ?_; intro g0 hg w2 hbox hb; replace HB := Aside0.mk (below_step HB.out hb); have BK0 := rM hbox; clear hb hbox hg; obtain ⟨z0, z1, z2, z3, z4, z5, z6, z7, y0, y1, y2, y3, y4, y5, y6, y7⟩ := c8 BK0.out) | (go_at_call 37; (with_reducible refine (frame_fits.calls _ _ _ false _ HF.out).mono ?_); rintro e w' ⟨rfl, ⟨nd, rfl⟩⟩))
  all_goals go_ret2
  all_goals exact ⟨rfl, (bH HB.out)⟩
 | true =>
  cases a0_0 with
  | true =>
   obtain ⟨L, hL⟩ : ∃ L_ : List Int, L_ = (frame_Pack.putw (frame_Pack.putw (frame_Pack.putw (frame_Pack.putw (frame_Pack.putw (frame_Pack.putw ((((List.replicate 24 0).set 0 128).set 0 129).set 1 a0_1) 2 (IntKind.u64.wrap (a0_6.size : Int)) 2) 4 (IntKind.u64.wrap (a0_5.size : Int)) 1) 6 (IntKind.u64.wrap a0_2) 2) 8 (IntKind.u64.wrap (wrap64 ((wrap64 ((a0_5.size : Int) + (a0_6.size : Int))) + (a0_7.size : Int)))) 4) 12 (IntKind.u64.wrap a0_3) 4) 16 a0_4 8) := ⟨_, rfl⟩
   have H1 : (if (strOfNums L).size + a0_5.size + a0_6.size + a0_7.size ≤ 9223372036854775807 then some (strOfNums L ++ a0_5 ++ a0_6 ++ a0_7, (0 : Int)) else none) = some (r1, r2) := by
    have H0 := HR.out; rw [if_pos rfl, if_pos (Or.inl rfl)] at H0; rw [hL]; exact H0
   clear HR; have HL := Aside0.mk hL; clear hL
   by_cases hsz : (strOfNums L).size + a0_5.size + a0_6.size + a0_7.size ≤ 9223372036854775807
   ·rw [if_pos hsz] at H1; obtain ⟨rfl, rfl⟩ := Prod.mk.inj (Option.some.inj H1); clear H1; have hA1 : (strOfNums L).size + a0_5.size ≤ 9223372036854775807 := by omega
    have hA2 : (strOfNums L ++ a0_5).size + a0_6.size ≤ 9223372036854775807 := by rw [ByteArray.size_append]; omega
    have hA3 : (strOfNums L ++ a0_5 ++ a0_6).size + a0_7.size ≤ 9223372036854775807 := by rw [ByteArray.size_append, ByteArray.size_append]; omega
    have hB1 := eq_true hA1; have hC1 := decide_eq_true hA1; have hD1 := eq_false (Nat.not_lt.2 hA1)
    have hE1 := hD1; (try simp only [ByteArray.size_append] at hE1)
    have hB2 := eq_true hA2; have hC2 := decide_eq_true hA2; have hD2 := eq_false (Nat.not_lt.2 hA2)
    have hE2 := hD2; (try simp only [ByteArray.size_append] at hE2)
    have hB3 := eq_true hA3; have hC3 := decide_eq_true hA3; have hD3 := eq_false (Nat.not_lt.2 hA3)
    have hE3 := hD3; (try simp only [ByteArray.size_append] at hE3)
    have HS := Aside0.mk hsz; clear hsz; go_enter Try.func12, Try.ntmps12
    go_wp2_with (first | ((with_reducible refine gate_dst (N := 1) rfl ?_); refine bE 1 #[.bool true, .int .u8 a0_1, .int .u16 a0_2, .int .u32 a0_3, .int .u64 a0_4, .string a0_5, .string a0_6, .string a0_7] 31 rfl rfl ?_; intro g0 hg w2 hbox hb; have BK0 := rM hbox; have GE0 := Aside0.mk (by rw [hg]; exact below_size HB.out : w.heap.size ≤ g0); replace HB := Aside0.mk (below_step HB.out hb); clear hb hbox hg; obtain ⟨z0, z1, z2, z3, z4, z5, z6, z7, y0, y1, y2, y3, y4, y5, y6, y7⟩ := c8 BK0.out) | (go_at_call 37; (with_reducible refine (frame_fits.calls _ _ _ true _ HF.out).mono ?_); rintro e w' ⟨rfl, ⟨nd, rfl⟩⟩) | ((with_reducible refine gate_dst (N := 4) rfl ?_); refine box_event ?hg (N := 4) ?hd (cs := frame_Pack.cells (List.replicate 24 0)) (t := 90) ?hr ?_; (case hd => rfl); (case hg => rfl); (case hr => rw [frame_Pack.fresh]; first | (go_simp; done) | (go_simp; rfl)); intro g1 hg w3 hbox hb; have n0_ := rS HB hb; have n1_ := rB BK0 hb; have n2_ := rM hbox; have n3_ := Aside0.mk (by rw [hg]; exact below_size (bH HB.out) : w.heap.size ≤ g1); have n4_ := Aside0.mk (by rw [hg]; exact Nat.ne_of_lt (blk_lt (g := g0) (o := .cells #[.bool true, .int .u8 a0_1, .int .u16 a0_2, .int .u32 a0_3, .int .u64 a0_4, .string a0_5, .string a0_6, .string a0_7] 31 (0, 0)) (bK BK0.out)) : g0 ≠ g1); clear HB BK0; have HB := n0_; have BK0 := n1_; have BK1 := n2_; have GE1 := n3_; have NE := n4_; clear n0_ n1_ n2_ n3_ n4_ hb hbox hg; clear z0 z1 z2 z3 z4 z5 z6 z7 y0 y1 y2 y3 y4 y5 y6 y7; obtain ⟨z0, z1, z2, z3, z4, z5, z6, z7, y0, y1, y2, y3, y4, y5, y6, y7⟩ := c8 BK0.out; have q0 := (blk_cell BK1.out 0).trans (frame_Pack.cells_get _ 0 (by decide)); have k0 := blk_frozen BK1.out 0) | ((with_reducible refine gate_store (t := 5) (p := 26) rfl ?_); refine store_event (t := 5) (p := 26) (v := ?vo_w4) (w1 := (w3.setCell ⟨g1, 0, none⟩ (.int .u8 128))) ?hg ?ho ?hn ?hr ?_; (case ho => rfl); (case hg => rfl); (case hn => rfl); (case hr => first | (go_simp; done) | (go_simp; rfl)); intro w4 hw; have n0_ := Aside0.mk (by rw [hw]; exact eS HB.out GE1.out : Below w.heap.size w w4); have n1_ := Aside0.mk (by rw [hw]; exact blk_far BK0.out NE.out _ : w4.heap[g0]? = some (.cells #[.bool true, .int .u8 a0_1, .int .u16 a0_2, .int .u32 a0_3, .int .u64 a0_4, .string a0_5, .string a0_6, .string a0_7] 31 (0, 0))); have n2_ := Aside0.mk (by rw [hw]; exact blk_put BK1.out 0 _ (frame_Pack.cells_set _ 0 128) : w4.heap[g1]? = some (.cells (frame_Pack.cells ((List.replicate 24 0).set 0 128)) 90 (0, 0))); clear HB BK0 BK1; have HB := n0_; have BK0 := n1_; have BK1 := n2_; clear n0_ n1_ n2_ hw q0 k0; clear z0 z1 z2 z3 z4 z5 z6 z7 y0 y1 y2 y3 y4 y5 y6 y7; obtain ⟨z0, z1, z2, z3, z4, z5, z6, z7, y0, y1, y2, y3, y4, y5, y6, y7⟩ := c8 BK0.out; have q0 := (blk_cell BK1.out 0).trans (frame_Pack.cells_get _ 0 (by simp)); have k0 := blk_frozen BK1.out 0) | ((with_reducible refine gate_store (t := 5) (p := 29) rfl ?_); refine store_event (t := 5) (p := 29) (v := ?vo_w5) (w1 := (w4.setCell ⟨g1, 0, none⟩ (.int .u8 129))) ?hg ?ho ?hn ?hr ?_; (case ho => rfl); (case hg => rfl); (case hn => rfl); (case hr => first | (go_simp; done) | (go_simp; rfl)); intro w5 hw; have n0_ := Aside0.mk (by rw [hw]; exact eS HB.out GE1.out : Below w.heap.size w w5); have n1_ := Aside0.mk (by rw [hw]; exact blk_far BK0.out NE.out _ : w5.heap[g0]? = some (.cells #[.bool true, .int .u8 a0_1, .int .u16 a0_2, .int .u32 a0_3, .int .u64 a0_4, .string a0_5, .string a0_6, .string a0_7] 31 (0, 0))); have n2_ := Aside0.mk (by rw [hw]; exact blk_put BK1.out 0 _ (frame_Pack.cells_set _ 0 129) : w5.heap[g1]? = some (.cells (frame_Pack.cells (((List.replicate 24 0).set 0 128).set 0 129)) 90 (0, 0))); clear HB BK0 BK1; have HB := n0_; have BK0 := n1_; have BK1 := n2_; clear n0_ n1_ n2_ hw q0 k0; clear z0 z1 z2 z3 z4 z5 z6 z7 y0 y1 y2 y3 y4 y5 y6 y7; obtain ⟨z0, z1, z2, z3, z4, z5, z6, z7, y0, y1, y2, y3, y4, y5, y6, y7⟩ := c8 BK0.out; have q0 := (blk_cell BK1.out 1).trans (frame_Pack.cells_get _ 1 (by simp)); have k0 := blk_frozen BK1.out 1) | ((with_reducible refine gate_store (t := 5) (p := 32) rfl ?_); refine store_event (t := 5) (p := 32) (v := ?vo_w6) (w1 := (w5.setCell ⟨g1, 1, none⟩ (.int .u8 a0_1))) ?hg ?ho ?hn ?hr ?_; (case ho => rfl); (case hg => rfl); (case hn => rfl); (case hr => first | (go_simp; done) | (go_simp; rfl)); intro w6 hw; have n0_ := Aside0.mk (by rw [hw]; exact eS HB.out GE1.out : Below w.heap.size w w6); have n1_ := Aside0.mk (by rw [hw]; exact blk_far BK0.out NE.out _ : w6.heap[g0]? = some (.cells #[.bool true, .int .u8 a0_1, .int .u16 a0_2, .int .u32 a0_3, .int .u64 a0_4, .string a0_5, .string a0_6, .string a0_7] 31 (0, 0))); have n2_ := Aside0.mk (by rw [hw]; exact blk_put BK1.out 1 _ (frame_Pack.cells_set _ 1 a0_1) : w6.heap[g1]? = some (.cells (frame_Pack.cells ((((List.replicate 24 0).set 0 128).set 0 129).set 1 a0_1)) 90 (0, 0))); clear HB BK0 BK1; have HB := n0_; have BK0 := n1_; have BK1 := n2_; clear n0_ n1_ n2_ hw q0 k0; clear z0 z1 z2 z3 z4 z5 z6 z7 y0 y1 y2 y3 y4 y5 y6 y7; obtain ⟨z0, z1, z2, z3, z4, z5, z6, z7, y0, y1, y2, y3, y4, y5, y6, y7⟩ := c8 BK0.out))
    go_still_tail 5, (by kernel_rfl)
    change wpList _ _ _ _ _ w6.drew
    have n0_ := Aside0.mk (bD BK0.out); have n1_ := Aside0.mk (bD BK1.out); have n2_ := Aside0.mk (eD HB.out); clear BK0 BK1 HB; have BK0 := n0_; have BK1 := n1_; have HB := n2_; clear n0_ n1_ n2_; (try clear hcv); clear z0 z1 z2 z3 z4 z5 z6 z7 y0 y1 y2 y3 y4 y5 y6 y7
    generalize w6.drew = w8 at BK0 BK1 HB ⊢
    go_wp2_with ((go_at_call 38; (with_reducible refine (frame_Pack.put g1 _ _ _ _ _ _ _ (bK BK1.out) (by simp only [frame_Pack.putw_length, List.length_set, List.length_replicate]; decide) (by decide)).mono ?_); rintro e w7 ⟨rfl, hq, hoth, hbel⟩; have n0_ := Aside0.mk (hbel w (bH HB.out) GE1.out); have n1_ := Aside0.mk (hoth g0 _ _ NE.out (bK BK0.out)); have n2_ := Aside0.mk (hq); clear HB BK0 BK1 hq hoth hbel; have HB := n0_; have BK0 := n1_; have BK1 := n2_; clear n0_ n1_ n2_; obtain ⟨z0, z1, z2, z3, z4, z5, z6, z7, y0, y1, y2, y3, y4, y5, y6, y7⟩ := c8 BK0.out; have hcv := fun n => frame_Pack.conv (w7.drewN n) g1 _ _ (bN BK1.out n) (by simp only [frame_Pack.putw_length, List.length_set, List.length_replicate])))
    go_still_tail 5, (by kernel_rfl)
    change wpList _ _ _ _ _ w7.drew
    have n0_ := Aside0.mk (bD BK0.out); have n1_ := Aside0.mk (bD BK1.out); have n2_ := Aside0.mk (eD HB.out); clear BK0 BK1 HB; have BK0 := n0_; have BK1 := n1_; have HB := n2_; clear n0_ n1_ n2_; (try clear hcv); clear z0 z1 z2 z3 z4 z5 z6 z7 y0 y1 y2 y3 y4 y5 y6 y7
    generalize w7.drew = w8 at BK0 BK1 HB ⊢
    go_wp2_with ((go_at_call 38; (with_reducible refine (frame_Pack.put g1 _ _ _ _ _ _ _ (bK BK1.out) (by simp only [frame_Pack.putw_length, List.length_set, List.length_replicate]; decide) (by decide)).mono ?_); rintro e w7 ⟨rfl, hq, hoth, hbel⟩; have n0_ := Aside0.mk (hbel w (bH HB.out) GE1.out); have n1_ := Aside0.mk (hoth g0 _ _ NE.out (bK BK0.out)); have n2_ := Aside0.mk (hq); clear HB BK0 BK1 hq hoth hbel; have HB := n0_; have BK0 := n1_; have BK1 := n2_; clear n0_ n1_ n2_; obtain ⟨z0, z1, z2, z3, z4, z5, z6, z7, y0, y1, y2, y3, y4, y5, y6, y7⟩ := c8 BK0.out; have hcv := fun n => frame_Pack.conv (w7.drewN n) g1 _ _ (bN BK1.out n) (by simp only [frame_Pack.putw_length, List.length_set, List.length_replicate])))
    go_still_tail 4, (by kernel_rfl)
    change wpList _ _ _ _ _ w7.drew
    have n0_ := Aside0.mk (bD BK0.out); have n1_ := Aside0.mk (bD BK1.out); have n2_ := Aside0.mk (eD HB.out); clear BK0 BK1 HB; have BK0 := n0_; have BK1 := n1_; have HB := n2_; clear n0_ n1_ n2_; (try clear hcv); clear z0 z1 z2 z3 z4 z5 z6 z7 y0 y1 y2 y3 y4 y5 y6 y7
    generalize w7.drew = w8 at BK0 BK1 HB ⊢
    go_wp2_with ((go_at_call 38; (with_reducible refine (frame_Pack.put g1 _ _ _ _ _ _ _ (bK BK1.out) (by simp only [frame_Pack.putw_length, List.length_set, List.length_replicate]; decide) (by decide)).mono ?_); rintro e w7 ⟨rfl, hq, hoth, hbel⟩; have n0_ := Aside0.mk (hbel w (bH HB.out) GE1.out); have n1_ := Aside0.mk (hoth g0 _ _ NE.out (bK BK0.out)); have n2_ := Aside0.mk (hq); clear HB BK0 BK1 hq hoth hbel; have HB := n0_; have BK0 := n1_; have BK1 := n2_; clear n0_ n1_ n2_; obtain ⟨z0, z1, z2, z3, z4, z5, z6, z7, y0, y1, y2, y3, y4, y5, y6, y7⟩ := c8 BK0.out; have hcv := fun n => frame_Pack.conv (w7.drewN n) g1 _ _ (bN BK1.out n) (by simp only [frame_Pack.putw_length, List.length_set, List.length_replicate])))
    go_still_tail 13, (by kernel_rfl)
    change wpList _ _ _ _ _ w7.drew
    have n0_ := Aside0.mk (bD BK0.out); have n1_ := Aside0.mk (bD BK1.out); have n2_ := Aside0.mk (eD HB.out); clear BK0 BK1 HB; have BK0 := n0_; have BK1 := n1_; have HB := n2_; clear n0_ n1_ n2_; (try clear hcv); clear z0 z1 z2 z3 z4 z5 z6 z7 y0 y1 y2 y3 y4 y5 y6 y7
    generalize w7.drew = w8 at BK0 BK1 HB ⊢
    go_wp2_with ((go_at_call 38; (with_reducible refine (frame_Pack.put g1 _ _ _ _ _ _ _ (bK BK1.out) (by simp only [frame_Pack.putw_length, List.length_set, List.length_replicate]; decide) (by decide)).mono ?_); rintro e w7 ⟨rfl, hq, hoth, hbel⟩; have n0_ := Aside0.mk (hbel w (bH HB.out) GE1.out); have n1_ := Aside0.mk (hoth g0 _ _ NE.out (bK BK0.out)); have n2_ := Aside0.mk (hq); clear HB BK0 BK1 hq hoth hbel; have HB := n0_; have BK0 := n1_; have BK1 := n2_; clear n0_ n1_ n2_; obtain ⟨z0, z1, z2, z3, z4, z5, z6, z7, y0, y1, y2, y3, y4, y5, y6, y7⟩ := c8 BK0.out; have hcv := fun n => frame_Pack.conv (w7.drewN n) g1 _ _ (bN BK1.out n) (by simp only [frame_Pack.putw_length, List.length_set, List.length_replicate])))
    go_still_tail 4, (by kernel_rfl)
    change wpList _ _ _ _ _ w7.drew
    have n0_ := Aside0.mk (bD BK0.out); have n1_ := Aside0.mk (bD BK1.out); have n2_ := Aside0.mk (eD HB.out); clear BK0 BK1 HB; have BK0 := n0_; have BK1 := n1_; have HB := n2_; clear n0_ n1_ n2_; (try clear hcv); clear z0 z1 z2 z3 z4 z5 z6 z7 y0 y1 y2 y3 y4 y5 y6 y7
    generalize w7.drew = w8 at BK0 BK1 HB ⊢
    go_wp2_with ((go_at_call 38; (with_reducible refine (frame_Pack.put g1 _ _ _ _ _ _ _ (bK BK1.out) (by simp only [frame_Pack.putw_length, List.length_set, List.length_replicate]; decide) (by decide)).mono ?_); rintro e w7 ⟨rfl, hq, hoth, hbel⟩; have n0_ := Aside0.mk (hbel w (bH HB.out) GE1.out); have n1_ := Aside0.mk (hoth g0 _ _ NE.out (bK BK0.out)); have n2_ := Aside0.mk (hq); clear HB BK0 BK1 hq hoth hbel; have HB := n0_; have BK0 := n1_; have BK1 := n2_; clear n0_ n1_ n2_; obtain ⟨z0, z1, z2, z3, z4, z5, z6, z7, y0, y1, y2, y3, y4, y5, y6, y7⟩ := c8 BK0.out; have hcv := fun n => frame_Pack.conv (w7.drewN n) g1 _ _ (bN BK1.out n) (by simp only [frame_Pack.putw_length, List.length_set, List.length_replicate])))
    go_still_tail 3, (by kernel_rfl)
    change wpList _ _ _ _ _ w7.drew
    have n0_ := Aside0.mk (bD BK0.out); have n1_ := Aside0.mk (bD BK1.out); have n2_ := Aside0.mk (eD HB.out); clear BK0 BK1 HB; have BK0 := n0_; have BK1 := n1_; have HB := n2_; clear n0_ n1_ n2_; (try clear hcv); clear z0 z1 z2 z3 z4 z5 z6 z7 y0 y1 y2 y3 y4 y5 y6 y7
    generalize w7.drew = w8 at BK0 BK1 HB ⊢
    go_wp2_with ((go_at_call 38; (with_reducible refine (frame_Pack.put g1 _ _ _ _ _ _ _ (bK BK1.out) (by simp only [frame_Pack.putw_length, List.length_set, List.length_replicate]; decide) (by decide)).mono ?_); rintro e w7 ⟨rfl, hq, hoth, hbel⟩; have n0_ := Aside0.mk (hbel w (bH HB.out) GE1.out); have n1_ := Aside0.mk (hoth g0 _ _ NE.out (bK BK0.out)); have n2_ := Aside0.mk (hq); clear HB BK0 BK1 hq hoth hbel; have HB := n0_; have BK0 := n1_; have BK1 := n2_; clear n0_ n1_ n2_; obtain ⟨z0, z1, z2, z3, z4, z5, z6, z7, y0, y1, y2, y3, y4, y5, y6, y7⟩ := c8 BK0.out; have hcv := fun n => frame_Pack.conv (w7.drewN n) g1 _ _ (bN BK1.out n) (by simp only [frame_Pack.putw_length, List.length_set, List.length_replicate])))
    have hcl : L.length = 24 := by rw [HL.out]; simp only [frame_Pack.putw_length, List.length_set, List.length_replicate]
    have v6 : IntKind.u64.wrap (a0_6.size : Int) = (a0_6.size : Int) := by
     have h0 : IntKind.u64.wrap (a0_6.size : Int) = (a0_6.size : Int) % 18446744073709551616 := by simp [IntKind.wrap, IntKind.bits, IntKind.signed]
     have := HS.out; rw [h0]
     omega
    have v5 : IntKind.u64.wrap (a0_5.size : Int) = (a0_5.size : Int) := by
     have h0 : IntKind.u64.wrap (a0_5.size : Int) = (a0_5.size : Int) % 18446744073709551616 := by simp [IntKind.wrap, IntKind.bits, IntKind.signed]
     have := HS.out; rw [h0]
     omega
    have v0 : IntKind.u64.wrap 0 = 0 := rfl; have hL2 := HL.out
    (try simp only [v5, v6, v0] at hL2)
    have n0_ := Aside0.mk (show w7.heap[g1]? = some (.cells (frame_Pack.cells L) 90 (0, 0)) from by rw [hL2]; with_reducible exact BK1.out); clear hL2 v0 v5 v6
    clear hcv BK1; have BK1 := n0_; clear n0_
    have hcv := fun n => frame_Pack.conv (w7.drewN n) g1 L _ (bN BK1.out n) hcl
    clear hcl
    go_quiet (fail)
    go_wp2
    go_ret2
    exact ⟨rfl, (bH HB.out)⟩
   ·rw [if_neg hsz] at H1; exact absurd H1 (by simp)
  | false =>
   by_cases h0 : a0_2 = 0
   ·subst h0; obtain ⟨L, hL⟩ : ∃ L_ : List Int, L_ = (frame_Pack.putw (frame_Pack.putw (frame_Pack.putw (frame_Pack.putw (frame_Pack.putw (frame_Pack.putw (((List.replicate 24 0).set 0 128).set 1 a0_1) 2 (IntKind.u64.wrap (a0_6.size : Int)) 2) 4 (IntKind.u64.wrap (a0_5.size : Int)) 1) 6 (IntKind.u64.wrap 0) 2) 8 (IntKind.u64.wrap (wrap64 ((wrap64 ((a0_5.size : Int) + (a0_6.size : Int))) + (a0_7.size : Int)))) 4) 12 (IntKind.u64.wrap a0_3) 4) 16 a0_4 8) := ⟨_, rfl⟩
    have H1 : (if (strOfNums L).size + a0_5.size + a0_6.size + a0_7.size ≤ 9223372036854775807 then some (strOfNums L ++ a0_5 ++ a0_6 ++ a0_7, (0 : Int)) else none) = some (r1, r2) := by
     have H0 := HR.out; rw [if_pos rfl, if_pos (Or.inr rfl)] at H0; rw [hL]; exact H0
    clear HR; have HL := Aside0.mk hL; clear hL
    by_cases hsz : (strOfNums L).size + a0_5.size + a0_6.size + a0_7.size ≤ 9223372036854775807
    ·rw [if_pos hsz] at H1; obtain ⟨rfl, rfl⟩ := Prod.mk.inj (Option.some.inj H1); clear H1; have hA1 : (strOfNums L).size + a0_5.size ≤ 9223372036854775807 := by omega
     have hA2 : (strOfNums L ++ a0_5).size + a0_6.size ≤ 9223372036854775807 := by rw [ByteArray.size_append]; omega
     have hA3 : (strOfNums L ++ a0_5 ++ a0_6).size + a0_7.size ≤ 9223372036854775807 := by rw [ByteArray.size_append, ByteArray.size_append]; omega
     have hB1 := eq_true hA1; have hC1 := decide_eq_true hA1; have hD1 := eq_false (Nat.not_lt.2 hA1)
     have hE1 := hD1; (try simp only [ByteArray.size_append] at hE1)
     have hB2 := eq_true hA2; have hC2 := decide_eq_true hA2; have hD2 := eq_false (Nat.not_lt.2 hA2)
     have hE2 := hD2; (try simp only [ByteArray.size_append] at hE2)
     have hB3 := eq_true hA3; have hC3 := decide_eq_true hA3; have hD3 := eq_false (Nat.not_lt.2 hA3)
     have hE3 := hD3; (try simp only [ByteArray.size_append] at hE3)
     have HS := Aside0.mk hsz; clear hsz; go_enter Try.func12, Try.ntmps12
     go_wp2_with (first | ((with_reducible refine gate_dst (N := 1) rfl ?_); refine bE 1 #[.bool false, .int .u8 a0_1, .int .u16 0, .int .u32 a0_3, .int .u64 a0_4, .string a0_5, .string a0_6, .string a0_7] 31 rfl rfl ?_; intro g0 hg w2 hbox hb; have BK0 := rM hbox; have GE0 := Aside0.mk (by rw [hg]; exact below_size HB.out : w.heap.size ≤ g0); replace HB := Aside0.mk (below_step HB.out hb); clear hb hbox hg; obtain ⟨z0, z1, z2, z3, z4, z5, z6, z7, y0, y1, y2, y3, y4, y5, y6, y7⟩ := c8 BK0.out) | (go_at_call 37; (with_reducible refine (frame_fits.calls _ _ _ true _ HF.out).mono ?_); rintro e w' ⟨rfl, ⟨nd, rfl⟩⟩) | ((with_reducible refine gate_dst (N := 4) rfl ?_); refine box_event ?hg (N := 4) ?hd (cs := frame_Pack.cells (List.replicate 24 0)) (t := 90) ?hr ?_; (case hd => rfl); (case hg => rfl); (case hr => rw [frame_Pack.fresh]; first | (go_simp; done) | (go_simp; rfl)); intro g1 hg w3 hbox hb; have n0_ := rS HB hb; have n1_ := rB BK0 hb; have n2_ := rM hbox; have n3_ := Aside0.mk (by rw [hg]; exact below_size (bH HB.out) : w.heap.size ≤ g1); have n4_ := Aside0.mk (by rw [hg]; exact Nat.ne_of_lt (blk_lt (g := g0) (o := .cells #[.bool false, .int .u8 a0_1, .int .u16 0, .int .u32 a0_3, .int .u64 a0_4, .string a0_5, .string a0_6, .string a0_7] 31 (0, 0)) (bK BK0.out)) : g0 ≠ g1); clear HB BK0; have HB := n0_; have BK0 := n1_; have BK1 := n2_; have GE1 := n3_; have NE := n4_; clear n0_ n1_ n2_ n3_ n4_ hb hbox hg; clear z0 z1 z2 z3 z4 z5 z6 z7 y0 y1 y2 y3 y4 y5 y6 y7; obtain ⟨z0, z1, z2, z3, z4, z5, z6, z7, y0, y1, y2, y3, y4, y5, y6, y7⟩ := c8 BK0.out; have q0 := (blk_cell BK1.out 0).trans (frame_Pack.cells_get _ 0 (by decide)); have k0 := blk_frozen BK1.out 0) | ((with_reducible refine gate_store (t := 5) (p := 26) rfl ?_); refine store_event (t := 5) (p := 26) (v := ?vo_w4) (w1 := (w3.setCell ⟨g1, 0, none⟩ (.int .u8 128))) ?hg ?ho ?hn ?hr ?_; (case ho => rfl); (case hg => rfl); (case hn => rfl); (case hr => first | (go_simp; done) | (go_simp; rfl)); intro w4 hw; have n0_ := Aside0.mk (by rw [hw]; exact eS HB.out GE1.out : Below w.heap.size w w4); have n1_ := Aside0.mk (by rw [hw]; exact blk_far BK0.out NE.out _ : w4.heap[g0]? = some (.cells #[.bool false, .int .u8 a0_1, .int .u16 0, .int .u32 a0_3, .int .u64 a0_4, .string a0_5, .string a0_6, .string a0_7] 31 (0, 0))); have n2_ := Aside0.mk (by rw [hw]; exact blk_put BK1.out 0 _ (frame_Pack.cells_set _ 0 128) : w4.heap[g1]? = some (.cells (frame_Pack.cells ((List.replicate 24 0).set 0 128)) 90 (0, 0))); clear HB BK0 BK1; have HB := n0_; have BK0 := n1_; have BK1 := n2_; clear n0_ n1_ n2_ hw q0 k0; clear z0 z1 z2 z3 z4 z5 z6 z7 y0 y1 y2 y3 y4 y5 y6 y7; obtain ⟨z0, z1, z2, z3, z4, z5, z6, z7, y0, y1, y2, y3, y4, y5, y6, y7⟩ := c8 BK0.out; have q0 := (blk_cell BK1.out 1).trans (frame_Pack.cells_get _ 1 (by simp)); have k0 := blk_frozen BK1.out 1) | ((with_reducible refine gate_store (t := 5) (p := 32) rfl ?_); refine store_event (t := 5) (p := 32) (v := ?vo_w6) (w1 := (w4.setCell ⟨g1, 1, none⟩ (.int .u8 a0_1))) ?hg ?ho ?hn ?hr ?_; (case ho => rfl); (case hg => rfl); (case hn => rfl); (case hr => first | (go_simp; done) | (go_simp; rfl)); intro w6 hw; have n0_ := Aside0.mk (by rw [hw]; exact eS HB.out GE1.out : Below w.heap.size w w6); have n1_ := Aside0.mk (by rw [hw]; exact blk_far BK0.out NE.out _ : w6.heap[g0]? = some (.cells #[.bool false, .int .u8 a0_1, .int .u16 0, .int .u32 a0_3, .int .u64 a0_4, .string a0_5, .string a0_6, .string a0_7] 31 (0, 0))); have n2_ := Aside0.mk (by rw [hw]; exact blk_put BK1.out 1 _ (frame_Pack.cells_set _ 1 a0_1) : w6.heap[g1]? = some (.cells (frame_Pack.cells (((List.replicate 24 0).set 0 128).set 1 a0_1)) 90 (0, 0))); clear HB BK0 BK1; have HB := n0_; have BK0 := n1_; have BK1 := n2_; clear n0_ n1_ n2_ hw q0 k0; clear z0 z1 z2 z3 z4 z5 z6 z7 y0 y1 y2 y3 y4 y5 y6 y7; obtain ⟨z0, z1, z2, z3, z4, z5, z6, z7, y0, y1, y2, y3, y4, y5, y6, y7⟩ := c8 BK0.out))
     go_still_tail 5, (by kernel_rfl)
     change wpList _ _ _ _ _ w6.drew
     have n0_ := Aside0.mk (bD BK0.out); have n1_ := Aside0.mk (bD BK1.out); have n2_ := Aside0.mk (eD HB.out); clear BK0 BK1 HB; have BK0 := n0_; have BK1 := n1_; have HB := n2_; clear n0_ n1_ n2_; (try clear hcv); clear z0 z1 z2 z3 z4 z5 z6 z7 y0 y1 y2 y3 y4 y5 y6 y7
     generalize w6.drew = w8 at BK0 BK1 HB ⊢
     go_wp2_with ((go_at_call 38; (with_reducible refine (frame_Pack.put g1 _ _ _ _ _ _ _ (bK BK1.out) (by simp only [frame_Pack.putw_length, List.length_set, List.length_replicate]; decide) (by decide)).mono ?_); rintro e w7 ⟨rfl, hq, hoth, hbel⟩; have n0_ := Aside0.mk (hbel w (bH HB.out) GE1.out); have n1_ := Aside0.mk (hoth g0 _ _ NE.out (bK BK0.out)); have n2_ := Aside0.mk (hq); clear HB BK0 BK1 hq hoth hbel; have HB := n0_; have BK0 := n1_; have BK1 := n2_; clear n0_ n1_ n2_; obtain ⟨z0, z1, z2, z3, z4, z5, z6, z7, y0, y1, y2, y3, y4, y5, y6, y7⟩ := c8 BK0.out; have hcv := fun n => frame_Pack.conv (w7.drewN n) g1 _ _ (bN BK1.out n) (by simp only [frame_Pack.putw_length, List.length_set, List.length_replicate])))
     go_still_tail 5, (by kernel_rfl)
     change wpList _ _ _ _ _ w7.drew
     have n0_ := Aside0.mk (bD BK0.out); have n1_ := Aside0.mk (bD BK1.out); have n2_ := Aside0.mk (eD HB.out); clear BK0 BK1 HB; have BK0 := n0_; have BK1 := n1_; have HB := n2_; clear n0_ n1_ n2_; (try clear hcv); clear z0 z1 z2 z3 z4 z5 z6 z7 y0 y1 y2 y3 y4 y5 y6 y7
     generalize w7.drew = w8 at BK0 BK1 HB ⊢
     go_wp2_with ((go_at_call 38; (with_reducible refine (frame_Pack.put g1 _ _ _ _ _ _ _ (bK BK1.out) (by simp only [frame_Pack.putw_length, List.length_set, List.length_replicate]; decide) (by decide)).mono ?_); rintro e w7 ⟨rfl, hq, hoth, hbel⟩; have n0_ := Aside0.mk (hbel w (bH HB.out) GE1.out); have n1_ := Aside0.mk (hoth g0 _ _ NE.out (bK BK0.out)); have n2_ := Aside0.mk (hq); clear HB BK0 BK1 hq hoth hbel; have HB := n0_; have BK0 := n1_; have BK1 := n2_; clear n0_ n1_ n2_; obtain ⟨z0, z1, z2, z3, z4, z5, z6, z7, y0, y1, y2, y3, y4, y5, y6, y7⟩ := c8 BK0.out; have hcv := fun n => frame_Pack.conv (w7.drewN n) g1 _ _ (bN BK1.out n) (by simp only [frame_Pack.putw_length, List.length_set, List.length_replicate])))
     go_still_tail 4, (by kernel_rfl)
     change wpList _ _ _ _ _ w7.drew
     have n0_ := Aside0.mk (bD BK0.out); have n1_ := Aside0.mk (bD BK1.out); have n2_ := Aside0.mk (eD HB.out); clear BK0 BK1 HB; have BK0 := n0_; have BK1 := n1_; have HB := n2_; clear n0_ n1_ n2_; (try clear hcv); clear z0 z1 z2 z3 z4 z5 z6 z7 y0 y1 y2 y3 y4 y5 y6 y7
     generalize w7.drew = w8 at BK0 BK1 HB ⊢
     go_wp2_with ((go_at_call 38; (with_reducible refine (frame_Pack.put g1 _ _ _ _ _ _ _ (bK BK1.out) (by simp only [frame_Pack.putw_length, List.length_set, List.length_replicate]; decide) (by decide)).mono ?_); rintro e w7 ⟨rfl, hq, hoth, hbel⟩; have n0_ := Aside0.mk (hbel w (bH HB.out) GE1.out); have n1_ := Aside0.mk (hoth g0 _ _ NE.out (bK BK0.out)); have n2_ := Aside0.mk (hq); clear HB BK0 BK1 hq hoth hbel; have HB := n0_; have BK0 := n1_; have BK1 := n2_; clear n0_ n1_ n2_; obtain ⟨z0, z1, z2, z3, z4, z5, z6, z7, y0, y1, y2, y3, y4, y5, y6, y7⟩ := c8 BK0.out; have hcv := fun n => frame_Pack.conv (w7.drewN n) g1 _ _ (bN BK1.out n) (by simp only [frame_Pack.putw_length, List.length_set, List.length_replicate])))
     go_still_tail 13, (by kernel_rfl)
     change wpList _ _ _ _ _ w7.drew
     have n0_ := Aside0.mk (bD BK0.out); have n1_ := Aside0.mk (bD BK1.out); have n2_ := Aside0.mk (eD HB.out); clear BK0 BK1 HB; have BK0 := n0_; have BK1 := n1_; have HB := n2_; clear n0_ n1_ n2_; (try clear hcv); clear z0 z1 z2 z3 z4 z5 z6 z7 y0 y1 y2 y3 y4 y5 y6 y7
     generalize w7.drew = w8 at BK0 BK1 HB ⊢
     go_wp2_with ((go_at_call 38; (with_reducible refine (frame_Pack.put g1 _ _ _ _ _ _ _ (bK BK1.out) (by simp only [frame_Pack.putw_length, List.length_set, List.length_replicate]; decide) (by decide)).mono ?_); rintro e w7 ⟨rfl, hq, hoth, hbel⟩; have n0_ := Aside0.mk (hbel w (bH HB.out) GE1.out); have n1_ := Aside0.mk (hoth g0 _ _ NE.out (bK BK0.out)); have n2_ := Aside0.mk (hq); clear HB BK0 BK1 hq hoth hbel; have HB := n0_; have BK0 := n1_; have BK1 := n2_; clear n0_ n1_ n2_; obtain ⟨z0, z1, z2, z3, z4, z5, z6, z7, y0, y1, y2, y3, y4, y5, y6, y7⟩ := c8 BK0.out; have hcv := fun n => frame_Pack.conv (w7.drewN n) g1 _ _ (bN BK1.out n) (by simp only [frame_Pack.putw_length, List.length_set, List.length_replicate])))
     go_still_tail 4, (by kernel_rfl)
     change wpList _ _ _ _ _ w7.drew
     have n0_ := Aside0.mk (bD BK0.out); have n1_ := Aside0.mk (bD BK1.out); have n2_ := Aside0.mk (eD HB.out); clear BK0 BK1 HB; have BK0 := n0_; have BK1 := n1_; have HB := n2_; clear n0_ n1_ n2_; (try clear hcv); clear z0 z1 z2 z3 z4 z5 z6 z7 y0 y1 y2 y3 y4 y5 y6 y7
     generalize w7.drew = w8 at BK0 BK1 HB ⊢
     go_wp2_with ((go_at_call 38; (with_reducible refine (frame_Pack.put g1 _ _ _ _ _ _ _ (bK BK1.out) (by simp only [frame_Pack.putw_length, List.length_set, List.length_replicate]; decide) (by decide)).mono ?_); rintro e w7 ⟨rfl, hq, hoth, hbel⟩; have n0_ := Aside0.mk (hbel w (bH HB.out) GE1.out); have n1_ := Aside0.mk (hoth g0 _ _ NE.out (bK BK0.out)); have n2_ := Aside0.mk (hq); clear HB BK0 BK1 hq hoth hbel; have HB := n0_; have BK0 := n1_; have BK1 := n2_; clear n0_ n1_ n2_; obtain ⟨z0, z1, z2, z3, z4, z5, z6, z7, y0, y1, y2, y3, y4, y5, y6, y7⟩ := c8 BK0.out; have hcv := fun n => frame_Pack.conv (w7.drewN n) g1 _ _ (bN BK1.out n) (by simp only [frame_Pack.putw_length, List.length_set, List.length_replicate])))
     go_still_tail 3, (by kernel_rfl)
     change wpList _ _ _ _ _ w7.drew
     have n0_ := Aside0.mk (bD BK0.out); have n1_ := Aside0.mk (bD BK1.out); have n2_ := Aside0.mk (eD HB.out); clear BK0 BK1 HB; have BK0 := n0_; have BK1 := n1_; have HB := n2_; clear n0_ n1_ n2_; (try clear hcv); clear z0 z1 z2 z3 z4 z5 z6 z7 y0 y1 y2 y3 y4 y5 y6 y7
     generalize w7.drew = w8 at BK0 BK1 HB ⊢
     go_wp2_with ((go_at_call 38; (with_reducible refine (frame_Pack.put g1 _ _ _ _ _ _ _ (bK BK1.out) (by simp only [frame_Pack.putw_length, List.length_set, List.length_replicate]; decide) (by decide)).mono ?_); rintro e w7 ⟨rfl, hq, hoth, hbel⟩; have n0_ := Aside0.mk (hbel w (bH HB.out) GE1.out); have n1_ := Aside0.mk (hoth g0 _ _ NE.out (bK BK0.out)); have n2_ := Aside0.mk (hq); clear HB BK0 BK1 hq hoth hbel; have HB := n0_; have BK0 := n1_; have BK1 := n2_; clear n0_ n1_ n2_; obtain ⟨z0, z1, z2, z3, z4, z5, z6, z7, y0, y1, y2, y3, y4, y5, y6, y7⟩ := c8 BK0.out; have hcv := fun n => frame_Pack.conv (w7.drewN n) g1 _ _ (bN BK1.out n) (by simp only [frame_Pack.putw_length, List.length_set, List.length_replicate])))
     have hcl : L.length = 24 := by rw [HL.out]; simp only [frame_Pack.putw_length, List.length_set, List.length_replicate]
     have v6 : IntKind.u64.wrap (a0_6.size : Int) = (a0_6.size : Int) := by
      have h0 : IntKind.u64.wrap (a0_6.size : Int) = (a0_6.size : Int) % 18446744073709551616 := by simp [IntKind.wrap, IntKind.bits, IntKind.signed]
      have := HS.out; rw [h0]
      omega
     have v5 : IntKind.u64.wrap (a0_5.size : Int) = (a0_5.size : Int) := by
      have h0 : IntKind.u64.wrap (a0_5.size : Int) = (a0_5.size : Int) % 18446744073709551616 := by simp [IntKind.wrap, IntKind.bits, IntKind.signed]
      have := HS.out; rw [h0]
      omega
     have v0 : IntKind.u64.wrap 0 = 0 := rfl; have hL2 := HL.out
     (try simp only [v5, v6, v0] at hL2)
     have n0_ := Aside0.mk (show w7.heap[g1]? = some (.cells (frame_Pack.cells L) 90 (0, 0)) from by rw [hL2]; with_reducible exact BK1.out); clear hL2 v0 v5 v6
     clear hcv BK1; have BK1 := n0_; clear n0_
     have hcv := fun n => frame_Pack.conv (w7.drewN n) g1 L _ (bN BK1.out n) hcl
     clear hcl
     go_quiet (fail)
     go_wp2
     go_ret2
     exact ⟨rfl, (bH HB.out)⟩
    ·rw [if_neg hsz] at H1; exact absurd H1 (by simp)
   ·have H1 := HR.out; rw [if_pos rfl, if_neg (by simp [h0])] at H1; obtain ⟨rfl, rfl⟩ := Prod.mk.inj (Option.some.inj H1); clear H1 HR; have hne : (a0_2 != 0) = true := by simp [h0]
    go_enter Try.func12, Try.ntmps12
    go_wp2_with (first | ((with_reducible refine gate_dst (N := 1) rfl ?_); refine bE 1 #[.bool false, .int .u8 a0_1, .int .u16 a0_2, .int .u32 a0_3, .int .u64 a0_4, .string a0_5, .string a0_6, .string a0_7] 31 rfl rfl ?_; intro g0 hg w2 hbox hb; replace HB := Aside0.mk (below_step HB.out hb); have BK0 := rM hbox; clear hb hbox hg; obtain ⟨z0, z1, z2, z3, z4, z5, z6, z7, y0, y1, y2, y3, y4, y5, y6, y7⟩ := c8 BK0.out) | (go_at_call 37; (with_reducible refine (frame_fits.calls _ _ _ true _ HF.out).mono ?_); rintro e w' ⟨rfl, ⟨nd, rfl⟩⟩))
    all_goals go_ret2
    all_goals exact ⟨rfl, (bH HB.out)⟩

end Go.Proofs.Ytdepkgikdmlgiaa.P
