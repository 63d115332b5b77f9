/- The answer to a frame: the program's Reply and the document's agree. Conditions: a byte for the Op, a number of 64 bits. -/
import Derived.Test.YtdepkgikdmlgiaaFno
namespace Go.Proofs.Ytdepkgikdmlgiaa.Pl
open Go Go.RowKit Go.Proofs.Ytdepkgikdmlgiaa.P Go.Proofs.Ytdepkgikdmlgiaa.Lim Go.Proofs.YtdepkgikdmlgiaaW.PrintWords

def numV (n : Nat) (v : Int) : ByteArray := strOfNums (putg (List.replicate n 0) v n)
theorem wrap_rng (v : Int) : 0 ≤ IntKind.u64.wrap v ∧ IntKind.u64.wrap v < 18446744073709551616 := by
  rw [IntKind.wrap_u64]
  omega
theorem num4 (v : Int) : frame_number.L v 4 = some (numV 4 v) := number_eq v 4 (by decide)
theorem num8 (v : Int) : frame_number.L v 8 = some (numV 8 v) := number_eq v 8 (by decide)
theorem put4 (v : Int) : tallboyref29_Put.L (IntKind.u64.wrap v) 4 = some (numV 4 (IntKind.u64.wrap v)) := rput_eq _ 4 (by decide) (wrap_rng v).1 (wrap_rng v).2
theorem put8 (v : Int) (h0 : 0 ≤ v) (h1 : v < 18446744073709551616) : tallboyref29_Put.L v 8 = some (numV 8 v) := rput_eq v 8 (by decide) h0 h1

def rdB (k : Int) : Bool := if k ≥ 1 then decide (k ≤ 4) else false
theorem freads_eq (k : Int) : frame_reads.f k = some (rdB k) := by
  unfold frame_reads.f rdB
  split <;> rfl
theorem rreads_eq (k : Int) : tallboyref15_Reads.f k = some (rdB k) := by
  unfold tallboyref15_Reads.f rdB
  split <;> rfl

def cvH (y : S97) : S102 := ⟨y.f0, y.f1, y.f2, y.f3⟩
theorem to_loop (l : List S97) (hl : l.length < 2932031007402) (d : Nat) : ∀ (i : Nat) (x209000 x209002 c n : Int), i + d = l.length → tallboylaw18_To.l0L (i : Int) x209000 l x209002 c ((l.take i).map cvH) n = some (c, l.map cvH, n) := by
  induction d with
  | zero =>
    intro i _ _ c n hi
    rw [tallboylaw18_To.l0L_eq, if_neg (by omega), List.take_of_length_le (by omega)]
  | succ d ih =>
    intro i a b c n hi
    have hlt : i < l.length := by omega
    have e : (rd_T97 l (i : Int)) = l[i] := by
      unfold rd_T97
      rw [Int.toNat_natCast, List.getD_eq_getElem?_getD, List.getElem?_eq_getElem hlt]
      rfl
    rw [tallboylaw18_To.l0L_eq, if_pos (by omega), if_pos (by omega), if_pos (by rw [List.length_map, List.length_take]; omega), w64 (by omega) (by omega), show ((i : Int) + 1) = ((i + 1 : Nat) : Int) by omega]
    have e2 : (l.take i).map cvH ++ [(⟨(rd_T97 l (i : Int)).f0, (rd_T97 l (i : Int)).f1, (rd_T97 l (i : Int)).f2, (rd_T97 l (i : Int)).f3⟩ : S102)] = (l.take (i + 1)).map cvH := by
      rw [e, List.take_succ_eq_append_getElem hlt, List.map_append]
      rfl
    rw [e2, ih (i + 1) a b c n (by omega)]
theorem to_eq (a0 : Int) (l : List S97) (a2 : Int) (hl : l.length < 2932031007402) : tallboylaw18_To.L a0 l a2 = some (a0, l.map cvH, a2) := by
  rw [tallboylaw18_To.L_eq]
  exact to_loop l hl l.length 0 _ _ _ _ (by omega)
theorem rgreat_loop (l : List S97) (hl : l.length < 2932031007402) (hs : ∀ y ∈ l, y.f0.size ≤ 140737488351232 ∧ y.f2.size ≤ 140737488351232) (d : Nat) : ∀ (i : Nat) (x a c : Int), i + d = l.length → 0 ≤ x → x ≤ 1000000000000000 → ∃ b, tallboylaw18_Great.l0L x (i : Int) a l c = some b := by
  induction d with
  | zero =>
    intro i x a c hi h0 h1
    rw [tallboylaw18_Great.l0L_eq, if_neg (by omega)]
    exact ⟨_, rfl⟩
  | succ d ih =>
    intro i x a c hi h0 h1
    have hlt : i < l.length := by omega
    have e : (rd_T97 l (i : Int)) = l[i] := by
      unfold rd_T97
      rw [Int.toNat_natCast, List.getD_eq_getElem?_getD, List.getElem?_eq_getElem hlt]
      rfl
    rw [tallboylaw18_Great.l0L_eq, if_pos (by omega)]
    by_cases hx : x < 20000
    · obtain ⟨q0, q2⟩ := hs _ (List.getElem_mem hlt)
      rw [if_pos hx, if_pos (by omega), e, w64 (i := x + 1) (by omega) (by omega), w64 (i := x + 1 + _) (by omega) (by omega), w64 (i := x + 1 + _ + _) (by omega) (by omega), w64 (by omega) (by omega), show ((i : Int) + 1) = ((i + 1 : Nat) : Int) by omega]
      exact ih (i + 1) _ a c (by omega) (by omega) (by omega)
    · rw [if_neg hx]
      exact ⟨_, rfl⟩
theorem rgreat_some (a0 : Int) (l : List S97) (a2 : Int) (hl : l.length < 2932031007402) (hs : ∀ y ∈ l, y.f0.size ≤ 140737488351232 ∧ y.f2.size ≤ 140737488351232) : ∃ b, tallboylaw18_Great.L a0 l a2 = some b := by
  rw [tallboylaw18_Great.L_eq]
  exact rgreat_loop l hl hs l.length 0 0 _ _ (by omega) (by omega) (by omega)

set_option maxHeartbeats 4000000 in
theorem reply_eq (o : Bool) (op st oq cs : Int) (ex ky vl : ByteArray) (c : Int) (l : List S97) (n cas : Int) (h0 : 0 ≤ op) (h1 : op < 256) (g0 : 0 ≤ n) (g1 : n < 18446744073709551616) :
    ∃ r, tallboyref29_Reply.L o op st oq cs ex ky vl c l n cas = some r ∧ frame_Reply.L o op st oq cs ex ky vl c (l.map cvH) n cas = some r := by
  rw [frame_Reply.L_eq, tallboyref29_Reply.L_eq, find_eq op h0 h1, op_eq op h0 h1, status_eq]
  simp only [Option.bind_some, rreads_eq]
  generalize (opV op).1 = kd
  generalize (opV op).2 = qt
  have p8 := put8 n g0 g1
  have hfr := freads_eq kd
  generalize rdB kd = rb at hfr ⊢
  have hem : (kd = 2) = True ∨ (kd = 2) = False := by
    by_cases h : kd = 2
    · exact Or.inl (eq_true h)
    · exact Or.inr (eq_false h)
  cases l with
  | nil =>
    rcases codes c with rfl | rfl | rfl | rfl | rfl | rfl | rfl | rfl | rfl | rfl | rfl | rfl | ⟨h1, h2, h3, h4, h5, h6, h7, h8, h9, h10, h11, h12⟩ <;> cases qt <;> cases rb <;> rcases hem with hk | hk <;>
      simp [*, frame_Reply.j0L_eq, frame_Reply.j1L_eq, frame_Reply.j2L_eq, frame_Reply.j3L_eq, frame_Reply.j4L_eq, tallboyref29_Reply.j0L_eq, tallboyref29_Reply.j1L_eq, tallboyref29_Reply.j2L_eq, tallboyref29_Reply.j3L_eq, statV, num8]
  | cons y ys =>
    have hp : (0 : Int) < ((y :: ys).length : Int) := by simp only [List.length_cons]; omega
    have hp2 : (0 : Int) < (((y :: ys).map cvH).length : Int) := by simp only [List.length_map, List.length_cons]; omega
    have hn : ¬ ((y :: ys).length : Int) = 0 := by omega
    have r1 : rd_T97 (y :: ys) 0 = y := rfl
    have r2 : rd_T102 ((y :: ys).map cvH) 0 = cvH y := rfl
    generalize (y :: ys).map cvH = m2 at hp2 r2
    generalize (y :: ys) = m1 at hp hn r1
    have hd1 : decide ((m1.length : Int) > 0) = true := decide_eq_true hp
    have hd2 : decide ((m2.length : Int) > 0) = true := decide_eq_true hp2
    have hq1 : 0 < m1.length := by omega
    have hq2 : 0 < m2.length := by omega
    have hne : m1 ≠ [] := fun h => by rw [h] at hq1; exact absurd hq1 (by decide)
    have n4 := num4 (IntKind.u64.wrap y.f1)
    have q4 := put4 y.f1
    rcases codes c with rfl | rfl | rfl | rfl | rfl | rfl | rfl | rfl | rfl | rfl | rfl | rfl | ⟨h1, h2, h3, h4, h5, h6, h7, h8, h9, h10, h11, h12⟩ <;> cases qt <;> cases rb <;> rcases hem with hk | hk <;>
      simp [*, cvH, frame_Reply.j0L_eq, frame_Reply.j1L_eq, frame_Reply.j2L_eq, frame_Reply.j3L_eq, frame_Reply.j4L_eq, tallboyref29_Reply.j0L_eq, tallboyref29_Reply.j1L_eq, tallboyref29_Reply.j2L_eq, tallboyref29_Reply.j3L_eq, statV, num8]
end Go.Proofs.Ytdepkgikdmlgiaa.Pl
