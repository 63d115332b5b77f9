/- How two texts compare by '>': as '<' the other way round. No condition. -/
import Derived.Test.YtbaegkghngbecaaDoorProg
import Derived.WalkKit
import Derived.Laws.Cover1
namespace Go.Proofs.YtbaegkghngbecaaDoor.P
open Go
theorem less_total : ∀ x y : List UInt8, (!(Op.bytesLess x y || x == y)) = Op.bytesLess y x
  | [], [] => rfl
  | [], _ :: _ => rfl
  | _ :: _, [] => rfl
  | a :: x, b :: y => by
    have ih := less_total x y
    simp only [Op.bytesLess]
    by_cases h : a = b
    · subst h
      have h1 : decide (a < a) = false := decide_eq_false (by simp)
      rw [h1, beq_self_eq_true, Bool.false_or, Bool.true_and, Bool.false_or, Bool.true_and, ← ih]
      congr 2
      simp
    · have h2 : (a == b) = false := beq_eq_false_iff_ne.2 h
      have h3 : (b == a) = false := beq_eq_false_iff_ne.2 (fun g => h g.symm)
      have h4 : (a :: x == b :: y) = false := beq_eq_false_iff_ne.2 (fun g => h (List.cons.inj g).1)
      rw [h2, h3, h4, Bool.false_and, Bool.or_false, Bool.false_and, Bool.or_false, Bool.or_false]
      have h5 : ¬ a.toNat = b.toNat := fun g => h (UInt8.toNat_inj.1 g)
      by_cases h6 : a < b
      · have h7 : ¬ b < a := fun g => by
          rw [UInt8.lt_iff_toNat_lt] at g h6
          omega
        rw [decide_eq_true h6, decide_eq_false h7]
        rfl
      · have h7 : b < a := by
          rw [UInt8.lt_iff_toNat_lt] at h6 ⊢
          omega
        rw [decide_eq_false h6, decide_eq_true h7]
        rfl
theorem gtrS (t : TypeId) (a b : ByteArray) : binOp .gtr t (.string a) (.string b) = pure (.bool (Op.bytesLess b.toList a.toList)) := by
  rw [binOp_string_gtr, less_total]
end Go.Proofs.YtbaegkghngbecaaDoor.P
