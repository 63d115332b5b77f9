/- ReplyApart, in plain Lean: a verdict's bytes are read as no result, but the one that says that something is too large; no beginning of them is. A kind is one of three to a reader; the seven verdicts and all their beginnings are evaluated by the kernel. No condition. -/
import Derived.Test.YtdgpagocccabdaaDoorSayReplyApart
import Derived.Test.YtdgpagocccabdaaDoorPl
import Derived.DataShut
namespace Go.Proofs.YtdgpagocccabdaaDoor.Pure
open Go Go.RowKit Go.Proofs.YtdgpagocccabdaaDoor.P Go.Proofs.YtdgpagocccabdaaDoor.Pl Go.Proofs.YtdgpagocccabdaaDoorW.PrintWords
set_option linter.unusedVariables false
theorem works_k : tallboylaw18_works.f 60 = some true := by decide +kernel
theorem hit_kind (r : Nat) (k k' : Int) (s : ByteArray) (h : verb_Shows.f k = verb_Shows.f k') : reply_hit.f r k s = reply_hit.f r k' s := by
  have j : ∀ (x y : ByteArray) (b : Bool), reply_hit.j0 r k x y b = reply_hit.j0 r k' x y b := by
    intro x y b
    cases r with
    | zero => simp only [reply_hit.j0]
    | succ r => simp only [reply_hit.j0, h]
  unfold reply_hit.f
  simp only [j]
theorem hits_kind (r : Nat) (k k' : Int) (s : ByteArray) (h : verb_Shows.f k = verb_Shows.f k') : ∀ d rest hs, reply_Read.hits r k s d rest hs = reply_Read.hits r k' s d rest hs := by
  intro d
  induction d with
  | zero => intro rest hs; simp only [reply_Read.hits]
  | succ d ih => intro rest hs; simp only [reply_Read.hits, hit_kind r k k' _ h, ih]
theorem read_kind (r : Nat) (k k' : Int) (s : ByteArray) (h : verb_Shows.f k = verb_Shows.f k') (h2 : reply_lines.l k = reply_lines.l k') : reply_Read.f r k s = reply_Read.f r k' s := by
  unfold reply_Read.f
  simp only [hits_kind r k k' _ h, h2]
def rep (k : Int) : Int := if k = 12 ∨ k = 13 then 12 else if k = 2 ∨ k = 4 then 2 else 0
theorem read_rep (r : Nat) (k : Int) (s : ByteArray) : reply_Read.f r k s = reply_Read.f r (rep k) s := by
  refine read_kind r k (rep k) s ?_ ?_
  · unfold rep
    by_cases h1 : k = 12 ∨ k = 13
    · rw [if_pos h1]
      rcases h1 with rfl | rfl <;> rfl
    · rw [if_neg h1]
      by_cases h2 : k = 2 ∨ k = 4
      · rw [if_pos h2]
        rcases h2 with rfl | rfl <;> rfl
      · rw [if_neg h2]
        unfold verb_Shows.f
        rw [if_neg (by omega), if_neg (by decide)]
        refine congrArg some ?_
        rw [beq_eq_false_iff_ne.2 (show k ≠ 4 by omega)]
        rfl
  · unfold rep reply_lines.l
    by_cases h1 : k = 12 ∨ k = 13
    · rw [if_pos h1, if_pos h1]
      rfl
    · rw [if_neg h1, if_neg h1]
      by_cases h2 : k = 2 ∨ k = 4
      · rw [if_pos h2]
        rfl
      · rw [if_neg h2]
        rfl
def err6 (kk : Int) (t : ByteArray) : Bool := match reply_Read.f 60 kk t with
  | some r => r.2.2.2.2 == 6
  | none => false
def chk (v kk : Int) : Bool := match reply_Complaint.f v with
  | some t => (match reply_Read.f 60 kk t with
    | some r => (r.2.2.2.2 == 0) == (v == 8)
    | none => false) && (decide (2 < t.size) && (decide (t.size ≤ 100) && (List.range t.size).all fun c => err6 kk (t.extract 0 c)))
  | none => false
theorem chk_all : ([3, 4, 5, 6, 7, 8, 9] : List Int).all (fun v => ([0, 2, 12] : List Int).all fun kk => chk v kk) = true := by decide +kernel
theorem rep_in (k : Int) : rep k ∈ ([0, 2, 12] : List Int) := by
  unfold rep
  split
  · decide
  · split <;> decide
theorem ReplyApart : replyApart.Pure := by
  intro k v c _ _ _
  refine ⟨60, ?_⟩
  have u0 : 0 ≤ IntKind.u64.wrap v := by rw [IntKind.wrap_u64]; omega
  have t0 : 0 ≤ Int.tmod (IntKind.u64.wrap v) 7 := Int.tmod_nonneg _ u0
  have t1 : Int.tmod (IntKind.u64.wrap v) 7 < 7 := Int.tmod_lt_of_pos _ (by decide)
  unfold tallboylaw18_ReplyApart.f
  rw [works_k]
  generalize Int.tmod (IntKind.u64.wrap v) 7 = z at t0 t1
  have e1 : wrap64 z = z := w64 (by omega) (by omega)
  rw [e1]
  have e2 : wrap64 (3 + z) = 3 + z := w64 (by omega) (by omega)
  rw [e2]
  clear e1 e2
  have hv : 3 + z ∈ ([3, 4, 5, 6, 7, 8, 9] : List Int) := by
    simp only [List.mem_cons, List.not_mem_nil, or_false]
    omega
  generalize 3 + z = y at hv
  have hc := List.all_eq_true.1 (List.all_eq_true.1 chk_all y hv) (rep k) (rep_in k)
  unfold chk at hc
  split at hc
  · rename_i t ht
    rw [ht]
    simp only [Option.bind_some, if_true]
    rw [read_rep 60 k t]
    split at hc
    · rename_i r hr
      rw [hr]
      simp only [Bool.and_eq_true, decide_eq_true_eq] at hc
      obtain ⟨h1, h2, h3, h4⟩ := hc
      have e3 : IntKind.u64.wrap (t.size : Int) = (t.size : Int) := by rw [IntKind.wrap_u64]; omega
      rw [e3]
      clear e3
      have u1 : 0 ≤ IntKind.u64.wrap c := by rw [IntKind.wrap_u64]; omega
      have q0 : 0 ≤ Int.tmod (IntKind.u64.wrap c) (t.size : Int) := Int.tmod_nonneg _ u1
      have q1 : Int.tmod (IntKind.u64.wrap c) (t.size : Int) < (t.size : Int) := Int.tmod_lt_of_pos _ (by omega)
      generalize Int.tmod (IntKind.u64.wrap c) (t.size : Int) = x at q0 q1
      clear u1
      have e4 : wrap64 x = x := w64 (by omega) (by omega)
      rw [e4]
      clear e4
      have h5 := List.all_eq_true.1 h4 x.toNat (List.mem_range.2 (by omega))
      unfold err6 at h5
      rw [read_rep 60 k (t.extract 0 x.toNat)]
      split at h5
      · rename_i r2 hr2
        simp only [Option.bind_some]
        rw [if_neg (by omega), if_pos q0, if_pos (by omega), hr2]
        simp only [Option.bind_some]
        rw [if_pos (by omega), if_pos h1, h5]
      · cases h5
    · cases hc
  · cases hc
end Go.Proofs.YtdgpagocccabdaaDoor.Pure
