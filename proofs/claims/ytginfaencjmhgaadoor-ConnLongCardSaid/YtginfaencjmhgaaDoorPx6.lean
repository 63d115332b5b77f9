/- Lean functions for the Go functions that the laws of this seat use, and the proofs that the Go code computes them; conditions: the readings that each theorem names. Written by a program. -/
import Derived.Test.YtginfaencjmhgaaDoorPx0
import Derived.Test.YtginfaencjmhgaaDoorShort
import Derived.Test.YtginfaencjmhgaaDoorLd
import Derived.Test.YtginfaencjmhgaaDoorShelf
import Derived.Lib.Walk
import Derived.Lib.ItoaMem
import Derived.WalkKit
import Derived.Test.YtginfaencjmhgaaDoorWAll
namespace Go.Proofs.YtginfaencjmhgaaDoor.P
open Go.RowKit Go.Proofs.YtginfaencjmhgaaDoorW.PrintWords Go.Proofs.YtginfaencjmhgaaDoorW.PrintLast Go.Proofs.YtginfaencjmhgaaDoorW.PrintMore
attribute [local go_sem] min2_int min_two
set_option linter.unusedVariables false
set_option linter.unusedSimpArgs false

-- HAND
-- FN tallboy/digits.Parse
-- ROUNDS 0
-- MAKING 1
-- LAID S
-- IMPORT Derived.Test.YtginfaencjmhgaaDoorLd
-- IMPORT Derived.Test.YtginfaencjmhgaaDoorShelf
-- IMPORT Derived.Lib.Walk
-- IMPORT Derived.Lib.ItoaMem
-- IMPORT Derived.WalkKit
-- IMPORT Derived.Test.YtginfaencjmhgaaDoorWMore
-- IMPORT Derived.Test.YtginfaencjmhgaaDoorWLast
/-! ### digits.Parse -/
def digits_Parse.dg (b : UInt8) : Bool := decide (48 ≤ b.toNat) && decide (b.toNat ≤ 57)
def digits_Parse.fin (l : List UInt8) : Int × Int := if l = [] then (0, 6) else if 20 < l.length then (0, 7) else match Lib.parseUintB 64 l with | .ok u => ((u : Int), 0) | _ => (0, 1)
def digits_Parse.f (a0 : ByteArray) : Option (Int × Int) := if a0.size ≤ 281474976710656 then some (if a0.data.toList.all digits_Parse.dg = true then digits_Parse.fin a0.data.toList else (0, 6)) else none
theorem digits_Parse.index : ∀ n : Nat, n < 256 → decide (Lib.indexByte [48, 49, 50, 51, 52, 53, 54, 55, 56, 57] n.toUInt8 < 0) = !digits_Parse.dg n.toUInt8 := by decide +kernel
theorem digits_Parse.take_all (l : List UInt8) (i : Nat) (h : i < l.length) (p : UInt8 → Bool) : (l.take (i + 1)).all p = ((l.take i).all p && p l[i]) := by
 rw [List.take_succ_eq_append_getElem h, List.all_append, List.all_cons, List.all_nil, Bool.and_true]
theorem digits_Parse.not_all (l : List UInt8) (i : Nat) (h : i < l.length) (p : UInt8 → Bool) (hp : p l[i] = false) : l.all p = false := by
 rw [List.all_eq_false]; exact ⟨_, List.getElem_mem h, by rw [hp]; decide⟩
theorem digits_Parse.no_syntax (M : Nat) : ∀ (l : List UInt8) (acc : Nat), l.all digits_Parse.dg = true → Lib.parseUintM M acc l ≠ .«syntax»
 | [], _, _ => by simp [Lib.parseUintM]
 | c :: r, acc, h => by
  rw [List.all_cons, Bool.and_eq_true] at h; have hd := h.1; unfold digits_Parse.dg at hd; rw [Bool.and_eq_true, decide_eq_true_eq, decide_eq_true_eq] at hd; rw [Lib.parseUintM, if_pos hd]
  split
  ·simp
  ·split
   ·simp
   ·exact digits_Parse.no_syntax M r _ h.2
theorem digits_Parse.bt_byte (s : ByteArray) (i : Nat) (h : i < s.data.toList.length) : (bt s (i : Int)) = ((s.data.toList[i].toNat : Nat) : Int) := by
 have h' : i < s.size := by simpa using h
 unfold bt; rw [dif_pos (show ((i : Nat) : Int).toNat < s.size by rw [Int.toNat_natCast]; exact h')]; simp [ByteArray.getElem_eq_getElem_data]
theorem digits_Parse.nil (a : ByteArray) : a.toList = ([] : List UInt8) ↔ a.size = 0 := by
 rw [ByteArray.toList_eq]
 constructor
 ·intro h
  have := congrArg List.length h
  simpa using this
 ·intro h
  exact List.eq_nil_of_length_eq_zero (by simpa using h)
theorem digits_Parse.pu_ok (s : ByteArray) (hmax : s.size ≤ 9223372036854775806) (u : Nat) (h : Lib.parseUintB 64 s.data.toList = .ok u) (w : World) :
  Calls Tryd.prog 52 #[.string s, .int .i64 10, .int .i64 64] w fun e w' => e = .returned (.tuple #[.int .u64 u, .nilIface]) ∧ Below w.heap.size w w' := by
 refine (Tryd.strconv_ParseUint_10_at64_ok s hmax u h w).mono ?_
 rintro e w' ⟨rfl, rfl | rfl⟩
 ·exact ⟨rfl, Below.refl _ _⟩
 ·exact ⟨rfl, Lib.bytesWorld_below w 5 s⟩
theorem digits_Parse.pu_range (s : ByteArray) (hlim : s.size ≤ 281474976710656) (h : Lib.parseUintB 64 s.data.toList = .range) (w : World) (hL : LdS w) :
  Calls Tryd.prog 52 #[.string s, .int .i64 10, .int .i64 64] w fun e w' => ∃ N, e = .returned (.tuple #[.int .u64 18446744073709551615, .iface 101 (.pointer (some ⟨N, 0, none⟩))]) ∧ Below w.heap.size w w' := by
 obtain ⟨tp, p, hv⟩ := hL.2.2; refine (Tryd.strconv_ParseUint_10_at64_range_var s hlim h tp p w hv).mono ?_
 rintro e w' ⟨N, rfl, _, _, hb⟩
 exact ⟨N, rfl, hb⟩
set_option maxHeartbeats 8000000 in
set_option maxRecDepth 100000 in
theorem digits_Parse.calls (a0 : ByteArray) (r1 r2 : Int) (w : World) (h : digits_Parse.f a0 = some (r1, r2)) (hL : LdS w) :
  Calls Tryd.prog 48 #[.string a0] w fun e w' => e = .returned (.tuple #[.int .u64 r1, .int .i64 r2]) ∧ Below w.heap.size w w' := by
 unfold digits_Parse.f at h
 by_cases hsz : a0.size ≤ 281474976710656
 case neg => rw [if_neg hsz] at h; cases h
 rw [if_pos hsz] at h; have HH := Aside0.mk (Option.some.inj h); have HZ := Aside0.mk hsz; have HS := Aside0.mk hL; clear h hsz hL; go_enter Tryd.func48, Tryd.ntmps48; go_wp2
 go_loopw [9] (fun v9 w' => ∃ (i : Nat) (x : Int), i ≤ a0.size ∧ v9 = .int .i64 x ∧ Aside0 (x = (i : Int)) ∧ Aside0 ((a0.data.toList.take i).all digits_Parse.dg = true) ∧ Drawn0 w w') (fun v9 _ => a0.size - (intOf v9).toNat)
 case atStart => exact ⟨0, 0, Nat.zero_le _, rfl, ⟨rfl⟩, ⟨rfl⟩, by repeat (first | exact Drawn0.refl _ | apply Drawn0.step)⟩
 case round =>
  obtain ⟨i, x, hi, rfl, HX0, HP, ⟨m1, rfl⟩⟩ := hrel; have hx0 := HX0.out; have hZ := HZ.out
  by_cases hlt : i < a0.size
  ·have hlen : i < a0.data.toList.length := by simpa using hlt
   have hb0 : decide (x < (a0.size : Int)) = true := decide_eq_true (by omega); have hbt := digits_Parse.bt_byte a0 i hlen; rw [← hx0] at hbt; have hlb := (a0.data.toList[i]'hlen).toNat_lt; have hix := digits_Parse.index (a0.data.toList[i]'hlen).toNat (by omega); rw [show ((a0.data.toList[i]'hlen).toNat).toUInt8 = a0.data.toList[i] from UInt8.ofNat_toNat] at hix; obtain ⟨z, hz⟩ : ∃ z, Lib.indexByte [48, 49, 50, 51, 52, 53, 54, 55, 56, 57] (bt a0 x).toNat.toUInt8 = z := ⟨_, rfl⟩
   have hz2 : Lib.indexByte [48, 49, 50, 51, 52, 53, 54, 55, 56, 57] a0.data.toList[i] = z := by
    rw [← hz, hbt, Int.toNat_natCast]; exact congrArg _ UInt8.ofNat_toNat.symm
   rw [hz2] at hix; have hI := fun (w : World) => show Calls Tryd.prog 51 #[.string ⟨#[48, 49, 50, 51, 52, 53, 54, 55, 56, 57]⟩, .int .u8 (bt a0 x)] w fun e w' => e = .returned (.int .i64 z) ∧ w' = w from hz ▸ Tryd.strings_IndexByte ⟨#[48, 49, 50, 51, 52, 53, 54, 55, 56, 57]⟩ (bt a0 x) w
   have HI := Aside0.mk hI; have HX := Aside0.mk (digits_Parse.take_all a0.data.toList i hlen digits_Parse.dg); have HN := Aside0.mk (digits_Parse.not_all a0.data.toList i hlen digits_Parse.dg); obtain ⟨ii, hii⟩ : ∃ i_ : Int, wrap64 (x + 1) = i_ := ⟨_, rfl⟩; have H3 := Aside0.mk (show ii = ((i + 1 : Nat) : Int) by rw [← hii, hx0]; unfold wrap64; omega); have hiw : IntKind.i64.wrap (x + 1) = ii := (i64_w _).trans hii; have hx5 := bt_at a0 x; have p5 : (0 ≤ x) = True := eq_true (by omega); have q5 : (x < (a0.size : Int)) = True := eq_true (by omega); have HLT := Aside0.mk hlt; generalize hbyte : a0.data.toList[i] = by_ at *; clear hz hz2 hbt hlb hI hx0 hi hZ hlt hii; cases hg : digits_Parse.dg by_ with
   | true =>
    rw [hg] at hix HX; have hb1 : decide (z < 0) = false := hix; clear hix
    go_wp2_with (go_at_call 51; refine (HI.out _).mono ?_; rintro e w' ⟨rfl, rfl⟩)
    go_roundw
    case rel => exact ⟨i + 1, ii, HLT.out, rfl, H3, ⟨by rw [HX.out, HP.out]; rfl⟩, by repeat (first | exact Drawn0.refl _ | apply Drawn0.step)⟩
    case measure =>
     have h1 := HLT.out; have h3 := H3.out
     show a0.size - ii.toNat < a0.size - x.toNat
     rw [h3, HX0.out, Int.toNat_natCast, Int.toNat_natCast]; exact Nat.sub_lt_sub_left h1 (Nat.lt_succ_self i)
   | false =>
    rw [hg] at hix HN; have hb1 : decide (z < 0) = true := hix; clear hix
    go_wp2_with (go_at_call 51; refine (HI.out _).mono ?_; rintro e w' ⟨rfl, rfl⟩)
    have hH := HH.out; rw [HN.out trivial, if_neg (by decide)] at hH; obtain ⟨rfl, rfl⟩ := Prod.mk.inj hH
    go_ret2
    exact ⟨rfl, by repeat (first | exact Below.refl _ _ | apply eN | apply eD)⟩
  ·obtain rfl : i = a0.size := by omega
   have hb0 : decide (x < (a0.size : Int)) = false := decide_eq_false (by omega)
   have hall : a0.data.toList.all digits_Parse.dg = true := by
    have h := HP.out
    rwa [List.take_of_length_le (by simp)] at h
   have hH := HH.out; rw [if_pos hall] at hH; have HA := Aside0.mk hall; clear hall hlt hi hZ hx0; have hlen : a0.data.toList.length = a0.size := by simp
   unfold digits_Parse.fin at hH
   by_cases h0 : a0.data.toList = []
   ·rw [if_pos h0] at hH; obtain ⟨rfl, rfl⟩ := Prod.mk.inj hH
    have he : a0 = ⟨#[]⟩ := by
     apply ByteArray.ext
     apply Array.toList_inj.1
     exact h0
    have hb1 : (a0.toList == ([] : List UInt8)) = true := beq_iff_eq.mpr ((digits_Parse.nil a0).2 (by rw [he]; rfl)); clear hlen h0 he; go_wp2
    go_ret2
    exact ⟨rfl, by repeat (first | exact Below.refl _ _ | apply eN | apply eD)⟩
   ·rw [if_neg h0] at hH; have hb1 : (a0.toList == ([] : List UInt8)) = false := beq_eq_false_iff_ne.mpr (fun h => h0 (List.length_eq_zero_iff.1 (hlen.trans ((digits_Parse.nil a0).1 h))))
    by_cases h20 : 20 < a0.data.toList.length
    ·rw [if_pos h20] at hH; obtain ⟨rfl, rfl⟩ := Prod.mk.inj hH; have hb2 : decide ((a0.size : Int) > 20) = true := decide_eq_true (by omega); clear hlen h0 h20; go_wp2
     go_ret2
     exact ⟨rfl, by repeat (first | exact Below.refl _ _ | apply eN | apply eD)⟩
    ·rw [if_neg h20] at hH; have hb2 : decide ((a0.size : Int) > 20) = false := decide_eq_false (by omega); have HZ2 := Aside0.mk (show a0.size ≤ 9223372036854775806 by have := HZ.out; omega); have H0 := Aside0.mk h0; clear hlen h0 h20; cases hp : Lib.parseUintB 64 a0.data.toList with
     | ok u =>
      rw [hp] at hH; obtain ⟨rfl, rfl⟩ := Prod.mk.inj hH; have HPU := Aside0.mk hp; clear hp
      go_wp2_with (go_at_call 52; refine (digits_Parse.pu_ok a0 HZ2.out u HPU.out _).mono ?_; rintro e w' ⟨rfl, hb⟩; have HB := Aside0.mk hb; clear hb)
      go_ret2
      exact ⟨rfl, by have hb := HB.out; first | exact hb | exact Below.trans (by repeat (first | exact Below.refl _ _ | apply eN | apply eD)) hb⟩
     | «syntax» => exact absurd hp (by
       unfold Lib.parseUintB
       split
       ·rename_i h; exact absurd h H0.out
       ·exact digits_Parse.no_syntax _ _ _ HA.out)
     | range =>
      rw [hp] at hH; obtain ⟨rfl, rfl⟩ := Prod.mk.inj hH; have HPU := Aside0.mk hp; clear hp
      go_wp2_with (go_at_call 52; refine (digits_Parse.pu_range a0 (by have := HZ.out; omega) HPU.out _ (LdS.on HS.out (by repeat (first | exact Below.refl _ _ | apply eN | apply eD)))).mono ?_; rintro e w' ⟨N, rfl, hb⟩; have HB := Aside0.mk hb; clear hb)
      go_ret2
      exact ⟨rfl, by have hb := HB.out; first | exact hb | exact Below.trans (by repeat (first | exact Below.refl _ _ | apply eN | apply eD)) hb⟩

end Go.Proofs.YtginfaencjmhgaaDoor.P
