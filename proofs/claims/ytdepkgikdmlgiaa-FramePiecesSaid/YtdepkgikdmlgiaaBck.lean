/- A frame's bytes, unpacked: with anything behind they are that frame; fewer of them are no frame yet. Conditions: the frame's numbers are of their kinds, its parts are not too long. -/
import Derived.Test.YtdepkgikdmlgiaaPck
namespace Go.Proofs.Ytdepkgikdmlgiaa.Pl
set_option linter.unusedVariables false
open Go Go.RowKit Go.Proofs.Ytdepkgikdmlgiaa.P Go.Proofs.Ytdepkgikdmlgiaa.Lim Go.Proofs.YtdepkgikdmlgiaaW.PrintWords

def u8l (l : List Int) : List UInt8 := l.map fun n => UInt8.ofNat n.toNat
theorem sb_list (s : ByteArray) (i j : Nat) : sb s i j = tk 0 ((s.data.toList.drop i).take (j - i)) := by
  unfold sb
  rw [ByteArray.data_extract, Array.toList_extract]
theorem u8n (v : Int) (h0 : 0 ≤ v) (h1 : v < 256) : (UInt8.ofNat v.toNat).toNat = v.toNat := by
  rw [UInt8.toNat_ofNat']
  omega
theorem tk2 (x y : Int) (hx : 0 ≤ x ∧ x < 256) (hy : 0 ≤ y ∧ y < 256) : ((tk 0 [UInt8.ofNat x.toNat, UInt8.ofNat y.toNat] : Nat) : Int) = x * 256 + y := by
  rw [tk_cons, tk_cons, tk_nil, u8n x hx.1 hx.2, u8n y hy.1 hy.2]
  omega
theorem tk4 (x y z u : Int) (hx : 0 ≤ x ∧ x < 256) (hy : 0 ≤ y ∧ y < 256) (hz : 0 ≤ z ∧ z < 256) (hu : 0 ≤ u ∧ u < 256) : ((tk 0 [UInt8.ofNat x.toNat, UInt8.ofNat y.toNat, UInt8.ofNat z.toNat, UInt8.ofNat u.toNat] : Nat) : Int) = ((x * 256 + y) * 256 + z) * 256 + u := by
  rw [tk_cons, tk_cons, tk_cons, tk_cons, tk_nil, u8n x hx.1 hx.2, u8n y hy.1 hy.2, u8n z hz.1 hz.2, u8n u hu.1 hu.2]
  omega
theorem tk8 (x y z u p q r t : Int) (hx : 0 ≤ x ∧ x < 256) (hy : 0 ≤ y ∧ y < 256) (hz : 0 ≤ z ∧ z < 256) (hu : 0 ≤ u ∧ u < 256) (hp : 0 ≤ p ∧ p < 256) (hq : 0 ≤ q ∧ q < 256) (hr : 0 ≤ r ∧ r < 256) (ht : 0 ≤ t ∧ t < 256) :
    ((tk 0 [UInt8.ofNat x.toNat, UInt8.ofNat y.toNat, UInt8.ofNat z.toNat, UInt8.ofNat u.toNat, UInt8.ofNat p.toNat, UInt8.ofNat q.toNat, UInt8.ofNat r.toNat, UInt8.ofNat t.toNat] : Nat) : Int) = (((((((x * 256 + y) * 256 + z) * 256 + u) * 256 + p) * 256 + q) * 256 + r) * 256) + t := by
  rw [tk_cons, tk_cons, tk_cons, tk_cons, tk_cons, tk_cons, tk_cons, tk_cons, tk_nil, u8n x hx.1 hx.2, u8n y hy.1 hy.2, u8n z hz.1 hz.2, u8n u hu.1 hu.2, u8n p hp.1 hp.2, u8n q hq.1 hq.2, u8n r hr.1 hr.2, u8n t ht.1 ht.2]
  omega
theorem m256 (v : Int) : 0 ≤ v % 256 ∧ v % 256 < 256 := by omega

theorem hd_bt (s : ByteArray) (l : List Int) (rest : List UInt8) (hs : s.data.toList = u8l l ++ rest) (i : Nat) (v : Int) (hl : l[i]? = some v) (h0 : 0 ≤ v) (h1 : v < 256) : bt s (i : Int) = v := by
  obtain ⟨hi, hv⟩ := List.getElem?_eq_some_iff.1 hl
  have hlen : i < s.data.toList.length := by
    rw [hs, List.length_append, u8l, List.length_map]
    omega
  have e : s.data.toList[i]? = some (UInt8.ofNat v.toNat) := by
    rw [hs, List.getElem?_append_left (by rw [u8l, List.length_map]; exact hi), u8l, List.getElem?_map, hl]
    rfl
  rw [List.getElem?_eq_getElem hlen] at e
  rw [bt_get s i hlen, Option.some.inj e, u8n v h0 h1]
  omega
structure Hdr (s : ByteArray) (a : Bool) (op st oq cs : Int) (e k v : Nat) : Prop where
  b0 : bt s 0 = if a = true then 129 else 128
  b1 : bt s 1 = op
  b4 : bt s 4 = (e : Int)
  b5 : bt s 5 = 0
  sk : sb s 2 4 = k
  ss : (sb s 6 8 : Int) = st
  sa : sb s 8 12 = e + k + v
  so : (sb s 12 16 : Int) = oq
  sc : (sb s 16 24 : Int) = cs
theorem hdr (s : ByteArray) (a : Bool) (op st oq cs : Int) (e k v : Nat) (rest : List UInt8) (hs : s.data.toList = u8l (hdV a op st oq cs e k v) ++ rest) (h1 : 0 ≤ op ∧ op < 256) (h2 : 0 ≤ st ∧ st < 65536) (h3 : 0 ≤ oq ∧ oq < 4294967296) (h4 : 0 ≤ cs ∧ cs < 18446744073709551616) (h5 : k ≤ 250) (h6 : e ≤ 20) (h7 : v ≤ 1048576) : Hdr s a op st oq cs e k v := by
  have B := fun i v => hd_bt s _ rest hs i v
  refine ⟨?_, ?_, ?_, ?_, ?_, ?_, ?_, ?_, ?_⟩
  · exact B 0 _ rfl (by split <;> omega) (by split <;> omega)
  · exact B 1 _ rfl h1.1 h1.2
  · have := B 4 _ rfl (m256 _).1 (m256 _).2
    exact this.trans (by omega)
  · exact B 5 _ rfl (by omega) (by omega)
  · have E : ((sb s 2 4 : Nat) : Int) = (k : Int) / 256 % 256 * 256 + (k : Int) % 256 := by
      rw [sb_list, hs]
      exact tk2 _ _ (m256 _) (m256 _)
    omega
  · have E : ((sb s 6 8 : Nat) : Int) = st / 256 % 256 * 256 + st % 256 := by
      rw [sb_list, hs]
      exact tk2 _ _ (m256 _) (m256 _)
    omega
  · have E : ((sb s 8 12 : Nat) : Int) = ((((e + k + v : Nat) : Int) / 256 / 256 / 256 % 256 * 256 + ((e + k + v : Nat) : Int) / 256 / 256 % 256) * 256 + ((e + k + v : Nat) : Int) / 256 % 256) * 256 + ((e + k + v : Nat) : Int) % 256 := by
      rw [sb_list, hs]
      exact tk4 (((e + k + v : Nat) : Int) / 256 / 256 / 256 % 256) (((e + k + v : Nat) : Int) / 256 / 256 % 256) (((e + k + v : Nat) : Int) / 256 % 256) (((e + k + v : Nat) : Int) % 256) (m256 _) (m256 _) (m256 _) (m256 _)
    omega
  · have E : ((sb s 12 16 : Nat) : Int) = ((oq / 256 / 256 / 256 % 256 * 256 + oq / 256 / 256 % 256) * 256 + oq / 256 % 256) * 256 + oq % 256 := by
      rw [sb_list, hs]
      exact tk4 (oq / 256 / 256 / 256 % 256) (oq / 256 / 256 % 256) (oq / 256 % 256) (oq % 256) (m256 _) (m256 _) (m256 _) (m256 _)
    omega
  · have E : ((sb s 16 24 : Nat) : Int) = (((((((cs / 256 / 256 / 256 / 256 / 256 / 256 / 256 % 256 * 256 + cs / 256 / 256 / 256 / 256 / 256 / 256 % 256) * 256 + cs / 256 / 256 / 256 / 256 / 256 % 256) * 256 + cs / 256 / 256 / 256 / 256 % 256) * 256 + cs / 256 / 256 / 256 % 256) * 256 + cs / 256 / 256 % 256) * 256 + cs / 256 % 256) * 256) + cs % 256 := by
      rw [sb_list, hs]
      exact tk8 (cs / 256 / 256 / 256 / 256 / 256 / 256 / 256 % 256) (cs / 256 / 256 / 256 / 256 / 256 / 256 % 256) (cs / 256 / 256 / 256 / 256 / 256 % 256) (cs / 256 / 256 / 256 / 256 % 256) (cs / 256 / 256 / 256 % 256) (cs / 256 / 256 % 256) (cs / 256 % 256) (cs % 256) (m256 _) (m256 _) (m256 _) (m256 _) (m256 _) (m256 _) (m256 _) (m256 _)
    omega
/-- The bytes of a head, and what is behind it, unpacked. -/
theorem unp_hd (s : ByteArray) (a : Bool) (op st oq cs : Int) (e k v : Nat) (rest : List UInt8) (hs : s.data.toList = u8l (hdV a op st oq cs e k v) ++ rest) (h1 : 0 ≤ op ∧ op < 256) (h2 : 0 ≤ st ∧ st < 65536) (h3 : 0 ≤ oq ∧ oq < 4294967296) (h4 : 0 ≤ cs ∧ cs < 18446744073709551616) (ok : okF a st e k v) :
    unp s = if rest.length < e + k + v then badF 3 else (a, op, st, oq, cs, s.extract 24 (24 + e), s.extract (24 + e) (24 + e + k), s.extract (24 + e + k) (24 + (e + k + v)), ((24 + (e + k + v) : Nat) : Int), 0) := by
  obtain ⟨h5, h6, h7, h8⟩ := ok
  obtain ⟨b0, b1, b4, b5, sk, ss, sa, so, sc⟩ := hdr s a op st oq cs e k v rest hs h1 h2 h3 h4 h5 h6 h7
  have hsz : s.size = 24 + rest.length := by
    rw [← size_eq, hs, List.length_append, u8l, List.length_map, hd_length]
  have hin : ¬ (s.size ≠ 0 ∧ bt s 0 ≠ 128 ∧ bt s 0 ≠ 129) := by
    rw [b0]
    cases a
    · exact fun h => h.2.1 rfl
    · exact fun h => h.2.2 rfl
  have hok : okH s := by
    refine ⟨⟨b5, ?_⟩, by omega⟩
    rcases h8 with h8 | h8
    · left
      rw [b0, if_pos h8]
    · right
      omega
  have hb : (bt s 0 == 129) = a := by
    rw [b0]
    cases a <;> rfl
  rw [unp_in s hin, if_neg (by omega), unpV_in s e b4 hok, if_pos (show _ ∧ _ ∧ _ from ⟨by omega, by omega, by omega⟩), hb, b1, ss, so, sc, sk, sa, hsz]
  by_cases hr : rest.length < e + k + v
  · rw [if_pos (by omega), if_pos hr]
  · rw [if_neg (by omega), if_neg hr]
    rfl
theorem pk_list (a : Bool) (op st oq cs : Int) (ex ky vl more : ByteArray) : (pkV a op st oq cs ex ky vl ++ more).data.toList = u8l (hdV a op st oq cs ex.size ky.size vl.size) ++ (ex.data.toList ++ (ky.data.toList ++ (vl.data.toList ++ more.data.toList))) := by
  simp [pkV, strOfNums, u8l]
theorem pk_size (a : Bool) (op st oq cs : Int) (ex ky vl : ByteArray) : (pkV a op st oq cs ex ky vl).size = 24 + (ex.size + ky.size + vl.size) := by
  unfold pkV
  rw [ByteArray.size_append, ByteArray.size_append, ByteArray.size_append, strOfNums_size, hd_length]
  omega
theorem ex_list (s : ByteArray) (i j : Nat) (x : ByteArray) (h : (s.data.toList.drop i).take (j - i) = x.data.toList) : s.extract i j = x := by
  apply ByteArray.ext
  apply Array.toList_inj.1
  rw [ByteArray.data_extract, Array.toList_extract]
  exact h
theorem unp_pk (a : Bool) (op st oq cs : Int) (ex ky vl more : ByteArray) (h1 : 0 ≤ op ∧ op < 256) (h2 : 0 ≤ st ∧ st < 65536) (h3 : 0 ≤ oq ∧ oq < 4294967296) (h4 : 0 ≤ cs ∧ cs < 18446744073709551616) (ok : okF a st ex.size ky.size vl.size) :
    unp (pkV a op st oq cs ex ky vl ++ more) = (a, op, st, oq, cs, ex, ky, vl, ((24 + (ex.size + ky.size + vl.size) : Nat) : Int), 0) := by
  have L := pk_list a op st oq cs ex ky vl more
  have hh : (u8l (hdV a op st oq cs ex.size ky.size vl.size)).length = 24 := by rw [u8l, List.length_map, hd_length]
  rw [unp_hd _ a op st oq cs ex.size ky.size vl.size _ L h1 h2 h3 h4 ok, if_neg (by simp only [List.length_append, size_eq]; omega)]
  have se := size_eq ex
  have sk := size_eq ky
  have sv := size_eq vl
  rw [ex_list _ 24 (24 + ex.size) ex, ex_list _ (24 + ex.size) (24 + ex.size + ky.size) ky, ex_list _ (24 + ex.size + ky.size) (24 + (ex.size + ky.size + vl.size)) vl]
  · rw [L, ← List.append_assoc, ← List.append_assoc, List.drop_left' (by rw [List.length_append, List.length_append, hh, se, sk]), List.take_left' (by rw [sv]; omega)]
  · rw [L, ← List.append_assoc, List.drop_left' (by rw [List.length_append, hh, se]), List.take_left' (by rw [sk]; omega)]
  · rw [L, List.drop_left' hh, List.take_left' (by rw [se]; omega)]
theorem unp_cut (a : Bool) (op st oq cs : Int) (ex ky vl : ByteArray) (n : Nat) (hn : n < 24 + (ex.size + ky.size + vl.size)) (h1 : 0 ≤ op ∧ op < 256) (h2 : 0 ≤ st ∧ st < 65536) (h3 : 0 ≤ oq ∧ oq < 4294967296) (h4 : 0 ≤ cs ∧ cs < 18446744073709551616) (ok : okF a st ex.size ky.size vl.size) :
    unp ((pkV a op st oq cs ex ky vl).extract 0 n) = badF 3 := by
  have L := pk_list a op st oq cs ex ky vl ByteArray.empty
  have hh : (u8l (hdV a op st oq cs ex.size ky.size vl.size)).length = 24 := by rw [u8l, List.length_map, hd_length]
  have hps := pk_size a op st oq cs ex ky vl
  have hsz : ((pkV a op st oq cs ex ky vl).extract 0 n).size = n := by
    rw [ByteArray.size_extract, hps]
    omega
  rw [ByteArray.append_empty] at L
  have hl : ((pkV a op st oq cs ex ky vl).extract 0 n).data.toList = (pkV a op st oq cs ex ky vl).data.toList.take n := by
    rw [ByteArray.data_extract, Array.toList_extract]
    rfl
  by_cases h24 : n < 24
  · have hb : n ≠ 0 → bt ((pkV a op st oq cs ex ky vl).extract 0 n) ((0 : Nat) : Int) = if a = true then 129 else 128 := by
      intro h0
      have hlen : 0 < ((pkV a op st oq cs ex ky vl).extract 0 n).data.toList.length := by rw [size_eq, hsz]; omega
      have hlen2 : 0 < (pkV a op st oq cs ex ky vl).data.toList.length := by rw [size_eq, hps]; omega
      have hv : bt (pkV a op st oq cs ex ky vl) ((0 : Nat) : Int) = if a = true then 129 else 128 := hd_bt _ _ _ L 0 _ rfl (by split <;> omega) (by split <;> omega)
      rw [bt_get _ 0 hlen2] at hv
      rw [bt_get _ 0 hlen, ← hv]
      refine congrArg (fun x : UInt8 => (x.toNat : Int)) ?_
      simp only [hl, List.getElem_take]
    rw [unp_in, if_pos (by rw [hsz]; exact h24)]
    intro h
    rw [hsz] at h
    have hb' := hb h.1
    rw [show (((0 : Nat) : Int)) = 0 from rfl] at hb'
    rw [hb'] at h
    cases a
    · exact h.2.1 rfl
    · exact h.2.2 rfl
  · have hl2 : ((pkV a op st oq cs ex ky vl).extract 0 n).data.toList = u8l (hdV a op st oq cs ex.size ky.size vl.size) ++ (ex.data.toList ++ (ky.data.toList ++ (vl.data.toList ++ ByteArray.empty.data.toList))).take (n - 24) := by
      rw [hl, L, List.take_append, hh, List.take_of_length_le (by omega)]
    rw [unp_hd _ a op st oq cs ex.size ky.size vl.size _ hl2 h1 h2 h3 h4 ok, if_pos]
    rw [List.length_take]
    omega
end Go.Proofs.Ytdepkgikdmlgiaa.Pl
