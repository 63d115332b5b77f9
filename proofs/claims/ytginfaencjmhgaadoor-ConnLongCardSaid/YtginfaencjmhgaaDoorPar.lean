/- What line.Parse says of a line, in plain Lean: its limit is a plain function. No condition. -/
import Derived.Test.YtginfaencjmhgaaDoorDg2
import Derived.Test.YtginfaencjmhgaaDoorRCk
import Derived.Test.YtginfaencjmhgaaDoorPx13
namespace Go.Proofs.YtginfaencjmhgaaDoor.P
open Go Go.RowKit Go.Proofs.YtginfaencjmhgaaDoor.Lim Go.Proofs.YtginfaencjmhgaaDoorW.PrintWords
end Go.Proofs.YtginfaencjmhgaaDoor.P
namespace Go.Proofs.YtginfaencjmhgaaDoor.Pl
set_option linter.unusedVariables false
open Go Go.RowKit Go.Proofs.YtginfaencjmhgaaDoor.P Go.Proofs.YtginfaencjmhgaaDoor.Lim Go.Proofs.YtginfaencjmhgaaDoorW.PrintWords
abbrev PT := Int × Int × List ByteArray × Int × Int × ByteArray × Int × Int × Bool × Int × Int
abbrev kst (s : ByteArray) : Int × Int := sgnV s.data.toList
abbrev kpr (s : ByteArray) : Int × Int := prsV s.data.toList
def kvP (l : List ByteArray) (vd : Int) : Int := wrV (!(l.all keyP)) 4 vd
theorem key_lm (s : ByteArray) : Lm (fun k => fnv_Key.f k s) (some (keyP s)) := by
  rw [← key_eq]
  exact fnv_Key.Llm s
theorem sgn_lm (s : ByteArray) (h : s.size ≤ 1000000) : Lm (fun k => digits_Signed.f k s) (some (kst s)) := by
  rw [← signed_eq s h]
  exact digits_Signed.Llm s
theorem kv_lm (l : List ByteArray) : ∀ vd, Lm (fun k => kvV k l vd) (some (kvP l vd)) := by
  induction l with
  | nil => exact fun vd => Lm.const _
  | cons x xs ih =>
    intro vd
    have e : some (kvP (x :: xs) vd) = (some (keyP x)).bind fun b => some (kvP xs (wrV (!b) 4 vd)) := by
      refine congrArg some ?_
      unfold kvP wrV
      rw [List.all_cons]
      cases keyP x <;> cases xs.all keyP <;> by_cases h : vd = 0 <;> simp [h]
    rw [e]
    exact Lm.bind (key_lm x) (fun b => ih _)
def readsO (kd : Int) (ws : List ByteArray) : Option PT :=
  if ws.length < 1000 then
    (if kd = 3 ∨ kd = 4 then
      (match ws with
        | [] => some (zP 3)
        | [_] => some (zP 3)
        | y :: x :: xs => some (dnV (wrV ((kst y).2 != 0) 7 (kvP (x :: xs) (wrV (decide (8 < xs.length + 1)) 4 0))) kd (x :: xs) (kst y).1 0 false))
    else
      (match ws with
        | [] => some (zP 3)
        | x :: xs => some (dnV (kvP (x :: xs) (wrV (decide (8 < xs.length + 1)) 4 0)) kd (x :: xs) 0 0 false)))
  else none
theorem reads_lm (kd : Int) (ws : List ByteArray) (hw : ∀ x ∈ ws, x.size ≤ 1000000) : Lm (fun k => line_reads.f k kd ws) (readsO kd ws) := by
  unfold line_reads.f readsO
  refine Lm.ite (Lm.ite ?_ ?_) (Lm.const _)
  · match ws, hw with
    | [], _ => exact Lm.const _
    | [_], _ => exact Lm.const _
    | y :: x :: xs, hw =>
      refine Lm.bind (w := fun vd => some (dnV (wrV ((kst y).2 != 0) 7 vd) kd (x :: xs) (kst y).1 0 false)) (kv_lm (x :: xs) _) (fun vd => ?_)
      exact Lm.bind (w := fun r => some (dnV (wrV (r.2 != 0) 7 vd) kd (x :: xs) r.1 0 false)) (sgn_lm y (hw y (List.mem_cons_self ..))) (fun r => Lm.const _)
  · match ws, hw with
    | [], _ => exact Lm.const _
    | x :: xs, hw => exact Lm.bind (w := fun vd => some (dnV vd kd (x :: xs) 0 0 false)) (kv_lm (x :: xs) _) (fun vd => Lm.const _)
def casO (kd v2 : Int) (rest : List ByteArray) : Option (Int × Int) :=
  if kd = 10 then (match rest with
    | x :: _ => some ((kpr x).1, wrV ((kpr x).2 != 0) 4 v2)
    | [] => none) else some (0, v2)
theorem prs_top (l : List UInt8) : decide ((18446744073709551615 : Int) < (prsV l).1) = false := decide_eq_false (by have := (prs_rng l).2; omega)
theorem cas_eq (k : Nat) (kd v2 : Int) (rest : List ByteArray) (hw : ∀ x ∈ rest, x.size ≤ 1000000) : line_stores.cas k kd v2 rest = casO kd v2 rest := by
  unfold line_stores.cas casO
  by_cases h : kd = 10
  · rw [if_pos h, if_pos h]
    match rest, hw with
    | [], _ => rfl
    | x :: _, hw =>
      dsimp only
      rw [parse_eq x (by have := hw x (List.mem_cons_self ..); omega), Option.bind_some, prs_top, Bool.or_false]
  · rw [if_neg h, if_neg h]
def storesO (kd : Int) (q : Bool) (ws : List ByteArray) : Option PT :=
  match ws with
  | a :: b :: e :: d :: rest => if (kst d).2 = 0 ∧ 0 ≤ (kst d).1 then
      (casO kd (wrV ((kpr b).2 != 0 || decide ((4294967295 : Int) < (kpr b).1)) 4 (wrV (!keyP a) 4 0)) rest).bind fun cv => some (line_stores.fin kd q a (kst d).1 (kpr b).1 (kst e).1 cv.1 (wrV ((kst e).2 != 0) 7 cv.2))
    else some (zP 5)
  | _ => none
theorem stores_lm (kd : Int) (q : Bool) (ws : List ByteArray) (hw : ∀ x ∈ ws, x.size ≤ 1000000) : Lm (fun k => line_stores.f k kd q ws) (storesO kd q ws) := by
  unfold line_stores.f storesO
  match ws, hw with
  | [], _ => exact Lm.const _
  | [_], _ => exact Lm.const _
  | [_, _], _ => exact Lm.const _
  | [_, _, _], _ => exact Lm.const _
  | a :: b :: e :: d :: rest, hw =>
    refine Lm.bind (w := fun s => if s.2 = 0 ∧ 0 ≤ s.1 then (casO kd (wrV ((kpr b).2 != 0 || decide ((4294967295 : Int) < (kpr b).1)) 4 (wrV (!keyP a) 4 0)) rest).bind fun cv => some (line_stores.fin kd q a s.1 (kpr b).1 (kst e).1 cv.1 (wrV ((kst e).2 != 0) 7 cv.2)) else some (zP 5)) (sgn_lm d (hw d (by simp))) (fun s => ?_)
    refine Lm.ite ?_ (Lm.const _)
    refine Lm.bind (w := fun kb => (casO kd (wrV ((kpr b).2 != 0 || decide ((4294967295 : Int) < (kpr b).1)) 4 (wrV (!kb) 4 0)) rest).bind fun cv => some (line_stores.fin kd q a s.1 (kpr b).1 (kst e).1 cv.1 (wrV ((kst e).2 != 0) 7 cv.2))) (key_lm a) (fun kb => ?_)
    simp only [parse_eq b (by have := hw b (by simp); omega), Option.bind_some]
    have hr : ∀ x ∈ rest, x.size ≤ 1000000 := fun x hx => hw x (by simp [hx])
    simp only [cas_eq _ _ _ rest hr]
    refine Lm.bind (Lm.const _) (fun cv => ?_)
    exact Lm.bind (w := fun x => some (line_stores.fin kd q a s.1 (kpr b).1 x.1 cv.1 (wrV (x.2 != 0) 7 cv.2))) (sgn_lm e (hw e (by simp))) (fun x => Lm.const _)
def ownO (kd : Int) (q : Bool) (ws : List ByteArray) : Option PT :=
  if kd = 15 then some (dnV 0 kd [] 0 0 q) else
  match ws with
  | a :: t => if kd = 11 then some (dnV (wrV (!keyP a) 4 0) kd [a] 0 0 q) else
    (match t with
    | x :: _ => if kd = 14 then some (dnV (wrV ((kst x).2 != 0) 7 (wrV (!keyP a) 4 0)) kd [a] (kst x).1 0 q)
      else some (dnV (wrV ((kpr x).2 != 0) 6 (wrV (!keyP a) 4 0)) kd [a] 0 (kpr x).1 q)
    | [] => none)
  | [] => none
theorem own_lm (kd : Int) (q : Bool) (ws : List ByteArray) (hw : ∀ x ∈ ws, x.size ≤ 1000000) : Lm (fun k => line_Parse.own k kd q ws) (ownO kd q ws) := by
  unfold line_Parse.own ownO
  refine Lm.ite (Lm.const _) ?_
  match ws, hw with
  | [], _ => exact Lm.const _
  | [a], _ => exact Lm.bind (w := fun kb => if kd = 11 then some (dnV (wrV (!kb) 4 0) kd [a] 0 0 q) else none) (key_lm a) (fun kb => Lm.const _)
  | a :: x :: t, hw =>
    refine Lm.bind (w := fun kb => if kd = 11 then some (dnV (wrV (!kb) 4 0) kd [a] 0 0 q) else if kd = 14 then some (dnV (wrV ((kst x).2 != 0) 7 (wrV (!kb) 4 0)) kd [a] (kst x).1 0 q) else some (dnV (wrV ((kpr x).2 != 0) 6 (wrV (!kb) 4 0)) kd [a] 0 (kpr x).1 q)) (key_lm a) (fun kb => ?_)
    refine Lm.ite (Lm.const _) (Lm.ite ?_ ?_)
    · exact Lm.bind (w := fun p => some (dnV (wrV (p.2 != 0) 7 (wrV (!kb) 4 0)) kd [a] p.1 0 q)) (sgn_lm x (hw x (by simp))) (fun p => Lm.const _)
    · simp only [parse_eq x (by have := hw x (by simp); omega), Option.bind_some, prs_top, Bool.or_false]
      exact Lm.const _
def restO (kd : Int) (q : Bool) (ws : List ByteArray) : Option PT := if kd ≤ 10 then storesO kd q ws else ownO kd q ws
def wordsO (ws : List ByteArray) : Option PT := match ws with
    | [] => some (zP 3)
    | w0 :: wt => (verb_Kind.f w0).bind fun kd => if kd = 0 then some (zP 3) else if kd ≤ 4 then readsO kd wt else if 15 < kd then none else
      if wt.length = line_Parse.nw kd + 1 ∧ wt.getD (line_Parse.nw kd) ByteArray.empty = NRP then restO kd true (wt.take (line_Parse.nw kd))
      else if wt.length = line_Parse.nw kd then restO kd false wt else some (zP 3)
theorem rest_lm (kd : Int) (q : Bool) (ws : List ByteArray) (hw : ∀ x ∈ ws, x.size ≤ 1000000) : Lm (fun k => line_Parse.rest k kd q ws) (restO kd q ws) := Lm.ite (stores_lm kd q ws hw) (own_lm kd q ws hw)
def pO (s : ByteArray) : Option PT := if 160 < s.size then some (zP 9) else wordsO (Lib.goFieldsP blankP s)
theorem parse_lm (s : ByteArray) (hw : ∀ x ∈ Lib.goFieldsP blankP s, x.size ≤ 1000000) : Lm (fun k => line_Parse.f k s) (pO s) := by
  unfold line_Parse.f pO
  by_cases h : 160 < s.size
  · simp only [if_pos h]
    exact Lm.const _
  simp only [if_neg h]
  unfold line_Words.f
  rw [if_pos (by omega)]
  simp only [Option.bind_some]
  generalize Lib.goFieldsP blankP s = ws at hw
  unfold wordsO
  match ws, hw with
  | [], _ => exact Lm.const _
  | w0 :: wt, hw =>
    have hw2 : ∀ x ∈ wt, x.size ≤ 1000000 := fun x hx => hw x (List.mem_cons_of_mem _ hx)
    refine Lm.bind (Lm.const _) (fun kd => ?_)
    refine Lm.ite (Lm.const _) (Lm.ite (reads_lm _ _ hw2) (Lm.ite (Lm.const _) (Lm.ite (rest_lm _ _ _ (fun x hx => hw2 x (List.mem_of_mem_take hx))) (Lm.ite (rest_lm _ _ _ hw2) (Lm.const _)))))
/-! the words -/
theorem extract_le (s : ByteArray) (a b : Nat) : (s.extract a b).size ≤ s.size := by
  rw [ByteArray.size_extract]
  omega
theorem word_le (s x : ByteArray) (h : x ∈ Lib.goFieldsP blankP s) : x.size ≤ s.size := by
  obtain ⟨p, _, rfl⟩ := List.mem_map.1 h
  exact extract_le _ _ _
end Go.Proofs.YtginfaencjmhgaaDoor.Pl
