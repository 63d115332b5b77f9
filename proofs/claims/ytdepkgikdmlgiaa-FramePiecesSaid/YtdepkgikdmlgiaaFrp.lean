/- Small facts for the walk of FramePieces: packed frames with what they are, a row of wanted frames that the reader leaves alone. Conditions: the readings that each theorem names. -/
import Derived.Test.YtdepkgikdmlgiaaFrh
import Derived.Test.YtdepkgikdmlgiaaPx11
namespace Go.Proofs.Ytdepkgikdmlgiaa.Pl
set_option linter.unusedVariables false
open Go Go.RowKit Go.Proofs.Ytdepkgikdmlgiaa.P Go.Proofs.Ytdepkgikdmlgiaa.Lim Go.Proofs.YtdepkgikdmlgiaaW.PrintWords
/-- These bytes are the frame x's, whatever comes behind them; fewer of them are none yet. -/
def IsP (x : S26) (p : List Int) : Prop := 0 < p.length ∧ (∀ rest : List Int, unp (strOfNums (p ++ rest)) = (x.f0, x.f1, x.f2, x.f3, x.f4, x.f5, x.f6, x.f7, (p.length : Int), 0)) ∧ ∀ k, k < p.length → unp (strOfNums (p.take k)) = badF 3
theorem bytesL_cut (s : ByteArray) (a b : Nat) : bytesL (s.extract a b) = ((bytesL s).take b).drop a := by
  unfold bytesL
  rw [← List.map_take, ← List.map_drop]
  congr 1
  rw [ByteArray.data_extract, Array.toList_extract]
  simp [List.extract, List.drop_take]
theorem bytesL_app (s t : ByteArray) : bytesL (s ++ t) = bytesL s ++ bytesL t := by
  unfold bytesL
  rw [ByteArray.data_append, Array.toList_append, List.map_append]
theorem p_of (x : S26) (hx : P.fOk x) : ∃ (s : ByteArray) (e : Int), frame_Pack.f x.f0 x.f1 x.f2 x.f3 x.f4 x.f5 x.f6 x.f7 = some (s, e) ∧ (e = 0 → IsP x (bytesL s)) ∧ s.size ≤ 24 + (x.f5.size + x.f6.size + x.f7.size) := by
  obtain ⟨h1, h2, h3, h4⟩ := hx
  by_cases ok : okF x.f0 x.f2 x.f5.size x.f6.size x.f7.size
  · refine ⟨_, _, (fpack_eq x.f0 x.f1 x.f2 x.f3 x.f4 x.f5 x.f6 x.f7 h1 h2 h3).1 ok, fun _ => ⟨?_, fun rest => ?_, fun k hk => ?_⟩, Nat.le_of_eq (pk_size ..)⟩
    · rw [bytesL_len, pk_size]
      omega
    · rw [← P.nums_append, bytesL_str, bytesL_len, pk_size]
      exact unp_pk x.f0 x.f1 x.f2 x.f3 x.f4 x.f5 x.f6 x.f7 (strOfNums rest) h1 h2 h3 h4 ok
    · rw [bytesL_len, pk_size] at hk
      have h := bytesL_cut (pkV x.f0 x.f1 x.f2 x.f3 x.f4 x.f5 x.f6 x.f7) 0 k
      rw [List.drop_zero] at h
      rw [← h, bytesL_str]
      exact unp_cut x.f0 x.f1 x.f2 x.f3 x.f4 x.f5 x.f6 x.f7 k hk h1 h2 h3 h4 ok
  · exact ⟨_, _, (fpack_eq x.f0 x.f1 x.f2 x.f3 x.f4 x.f5 x.f6 x.f7 h1 h2 h3).2 ok, fun h => absurd h (by decide), Nat.zero_le _⟩
theorem unp_nil : unp (strOfNums []) = badF 3 := by
  have h0 : (strOfNums []).size = 0 := rfl
  rw [unp_in _ (fun h => h.1 h0), if_pos (by rw [h0]; decide)]
/-- What is fed so far, of the frames that are wanted. -/
def fl (L : List (S26 × List Int)) : List Int := (L.map Prod.snd).flatten
theorem cut_join (l : List Int) (a e : Nat) (h : a ≤ e) : (l.take e).drop a ++ l.drop e = l.drop a := by
  have h2 := congrArg (List.drop a) (List.take_append_drop e l)
  rw [List.drop_append] at h2
  rw [← h2]
  by_cases hl : e ≤ l.length
  · rw [List.length_take, Nat.min_eq_left hl, show a - e = 0 by omega, List.drop_zero]
  · rw [show l.drop e = [] from List.drop_eq_nil_of_le (by omega), List.drop_nil]
theorem nth_of {L : List (S26 × List Int)} {n : Nat} {y : S26 × List Int} {l : List (S26 × List Int)} (hd : L.drop n = y :: l) : n < L.length ∧ (L.map Prod.fst).getD n z26 = y.1 := by
  have hlt : n < L.length := by
    rcases Nat.lt_or_ge n L.length with h | h
    · exact h
    · rw [List.drop_eq_nil_of_le h] at hd
      cases hd
  refine ⟨hlt, ?_⟩
  have h2 := List.drop_eq_getElem_cons hlt
  rw [hd] at h2
  injection h2 with h3 h4
  rw [h3, List.getD_eq_getElem?_getD, List.getElem?_map, List.getElem?_eq_getElem hlt]
  rfl
theorem fl_cons (x : S26 × List Int) (L : List (S26 × List Int)) : fl (x :: L) = x.2 ++ fl L := rfl
theorem fl_snoc (x : S26 × List Int) (L : List (S26 × List Int)) : fl (L ++ [x]) = fl L ++ x.2 := by simp [fl]
theorem fl_drop (L : List (S26 × List Int)) (n : Nat) : (fl (L.drop n)).length ≤ (fl L).length := by
  have h := congrArg (fun l => (fl l).length) (List.take_append_drop n L)
  simp only [fl, List.map_append, List.flatten_append, List.length_append] at h ⊢
  omega
/-- Bytes that stand at the beginning of some frame, and are fewer: no frame yet. -/
theorem none_yet {L : List (S26 × List Int)} (hL : ∀ x ∈ L, IsP x.1 x.2) {n : Nat} {bs more : List Int} (h : bs ++ more = fl (L.drop n)) (hs : ∀ x l, L.drop n = x :: l → bs.length < x.2.length) : unp (strOfNums bs) = badF 3 := by
  cases hd : L.drop n with
  | nil =>
    rw [hd] at h
    obtain rfl : bs = [] := (List.append_eq_nil_iff.1 (h.trans rfl)).1
    exact unp_nil
  | cons x l =>
    have hx : x ∈ L := List.mem_of_mem_drop (i := n) (by rw [hd]; exact List.mem_cons_self)
    have hl := hs x l hd
    have e : bs = x.2.take bs.length := by
      have h2 := congrArg (List.take bs.length) h
      rw [hd, fl_cons, List.take_left, List.take_append_of_le_length (by omega)] at h2
      exact h2
    rw [e]
    exact (hL x hx).2.2 _ hl
/-- Bytes that hold the next frame: it stands at their beginning. -/
theorem one_more {L : List (S26 × List Int)} {n : Nat} {bs more : List Int} {x : S26 × List Int} {l : List (S26 × List Int)} (h : bs ++ more = fl (L.drop n)) (hd : L.drop n = x :: l) (hl : x.2.length ≤ bs.length) : ∃ bs2, bs = x.2 ++ bs2 ∧ bs2 ++ more = fl (L.drop (n + 1)) ∧ L.drop (n + 1) = l := by
  have hd2 : L.drop (n + 1) = l := by rw [← List.drop_drop, hd]; rfl
  have e : x.2 = bs.take x.2.length := by
    have h2 := congrArg (List.take x.2.length) h
    rw [hd, fl_cons, List.take_left, List.take_append_of_le_length hl] at h2
    exact h2.symm
  refine ⟨bs.drop x.2.length, ?_, ?_, hd2⟩
  · conv => lhs; rw [← List.take_append_drop x.2.length bs]
    rw [← e]
  · rw [hd2]
    rw [hd, fl_cons, ← List.take_append_drop x.2.length bs, ← e, List.append_assoc] at h
    exact List.append_cancel_left h
end Go.Proofs.Ytdepkgikdmlgiaa.Pl
namespace Go.Proofs.Ytdepkgikdmlgiaa.P
open Go.RowKit Go.Proofs.YtdepkgikdmlgiaaW.PrintWords Go.Proofs.YtdepkgikdmlgiaaW.PrintLast Go.Proofs.YtdepkgikdmlgiaaW.PrintMore
set_option linter.unusedVariables false
theorem info26 : (Try.prog.info? 26).map (fun i => (i.zero, i.size, i.bytes)) = some (some (.agg #[.bool false, .int .u8 0, .int .u16 0, .int .u32 0, .int .u64 0, .string ⟨#[]⟩, .string ⟨#[]⟩, .string ⟨#[]⟩]), 8, 64) := by kernel_rfl
theorem FRd.next_x (x : S26) (p rest : List Int) (hp : Pl.IsP x p) (hl : (p ++ rest).length ≤ 2097152) (w0 w : World) (g : Nat) (hI : FRd w0 w g (p ++ rest) 0) (hB : Below w0.heap.size w0 w) :
    Calls Try.prog 21 #[.pointer (some ⟨g, 0, none⟩)] w fun e_ w' => e_ = .returned (.tuple #[.agg #[.bool x.f0, .int .u8 x.f1, .int .u16 x.f2, .int .u32 x.f3, .int .u64 x.f4, .string x.f5, .string x.f6, .string x.f7], .bool true, .int .i64 0]) ∧ FRd w0 w' g rest 0 ∧ Below w0.heap.size w0 w' ∧ KeptT w w' g := by
  obtain ⟨k, hk⟩ := unp_ref _ hl _ _ _ _ _ _ _ _ _ _ (hp.2.1 rest)
  have := FRd.next_some k w0 w g _ x.f0 x.f1 x.f2 x.f3 x.f4 x.f5 x.f6 x.f7 _ 0 hI hB hk rfl (by omega) (by rw [List.length_append]; omega)
  rwa [Int.toNat_natCast, List.drop_left] at this
theorem FRd.next_0 (bs : List Int) (h : Pl.unp (strOfNums bs) = Pl.badF 3) (hl : bs.length ≤ 2097152) (w0 w : World) (g : Nat) (hI : FRd w0 w g bs 0) (hB : Below w0.heap.size w0 w) :
    Calls Try.prog 21 #[.pointer (some ⟨g, 0, none⟩)] w fun e_ w' => e_ = .returned (.tuple #[.agg #[.bool false, .int .u8 0, .int .u16 0, .int .u32 0, .int .u64 0, .string ⟨#[]⟩, .string ⟨#[]⟩, .string ⟨#[]⟩], .bool false, .int .i64 0]) ∧ FRd w0 w' g bs 0 ∧ Below w0.heap.size w0 w' ∧ KeptT w w' g := by
  obtain ⟨k, hk⟩ := unp_ref bs hl _ _ _ _ _ _ _ _ _ _ (h.trans rfl)
  exact FRd.next_none k w0 w g bs _ _ _ _ _ _ _ _ _ 3 hI hB hk rfl
end Go.Proofs.Ytdepkgikdmlgiaa.P
