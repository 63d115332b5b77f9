/- FrameCommands, in plain Lean: the request for a command asks for that command, through its bytes; the answer to it has its Op and its Opaque. No condition. -/
import Derived.Test.YtdepkgikdmlgiaaSayFrameCommands
import Derived.Test.YtdepkgikdmlgiaaLmFrameCommands
import Derived.Test.YtdepkgikdmlgiaaRnd
import Derived.DataShut
namespace Go.Proofs.Ytdepkgikdmlgiaa.Pure
set_option linter.unusedVariables false
open Go Go.RowKit Go.Proofs.Ytdepkgikdmlgiaa.P Go.Proofs.Ytdepkgikdmlgiaa.Lim Go.Proofs.Ytdepkgikdmlgiaa.Pl Go.Proofs.Ytdepkgikdmlgiaa.Open Go.Proofs.YtdepkgikdmlgiaaW.PrintWords
theorem worksC : tallboylaw29_works.L = some true := tallboylaw29_works.Llm.2 60 true (by decide +kernel)
theorem ask_rng (l : List S112) (hl : (l.all fun r => decide (0 ≤ r.f0 ∧ r.f0 < 256 ∧ 0 ≤ r.f1 ∧ r.f1 < 256)) = true) (x : Int) (q : Bool) : 0 ≤ askG l x q ∧ askG l x q < 256 := by
  induction l with
  | nil =>
    show 0 ≤ (0 : Int) ∧ (0 : Int) < 256
    decide
  | cons r l ih =>
    rw [List.all_cons, Bool.and_eq_true, decide_eq_true_eq] at hl
    show 0 ≤ (if r.f2 = x then (if q = true then r.f1 else r.f0) else askG l x q) ∧ (if r.f2 = x then (if q = true then r.f1 else r.f0) else askG l x q) < 256
    split
    · split
      · exact ⟨hl.1.2.2.1, hl.1.2.2.2⟩
      · exact ⟨hl.1.1, hl.1.2.1⟩
    · exact ih hl.2
theorem xt_size (k fl ex del : Int) : (xtV k fl ex del).size ≤ 20 := by
  unfold xtV
  split
  · rw [numV_size]; omega
  · split
    · rw [ByteArray.size_append, numV_size, numV_size]; omega
    · split
      · rw [ByteArray.size_append, ByteArray.size_append, numV_size, numV_size, numV_size]; omega
      · show 0 ≤ 20
        omega
theorem key_size (l : List ByteArray) (h : l.all keyP = true) : (keyV l).size ≤ 250 := by
  cases l with
  | nil =>
    show 0 ≤ 250
    omega
  | cons x l =>
    rw [List.all_cons, Bool.and_eq_true] at h
    have h1 := h.1
    unfold keyP at h1
    rw [Bool.and_eq_true, decide_eq_true_eq] at h1
    show x.size ≤ 250
    omega
theorem FrameCommands : frameCommands.Pure := by
  intro c oq r hc ho hr
  obtain ⟨-, ⟨hk1, hk2, hk3⟩, w2, w3, wv, w5, w6, -⟩ := hc
  obtain ⟨-, ⟨hb, -, hy⟩, hn⟩ := hr
  rw [frameCommands.bytesOf9] at hk1
  rw [frameCommands.bytesOf97] at hb
  have hl : r.f1.length < 2932031007402 := by omega
  have q2 : 0 ≤ c.f2 ∧ c.f2 ≤ 4294967295 := (Lit.wf_int_iff .u32 c.f2).1 w2
  have q5 : 0 ≤ c.f5 ∧ c.f5 ≤ 18446744073709551615 := (Lit.wf_int_iff .u64 c.f5).1 w5
  have q6 : 0 ≤ c.f6 ∧ c.f6 ≤ 18446744073709551615 := (Lit.wf_int_iff .u64 c.f6).1 w6
  have qo : 0 ≤ oq ∧ oq ≤ 4294967295 := (Lit.wf_int_iff .u32 oq).1 ho
  have qn : 0 ≤ r.f2 ∧ r.f2 ≤ 18446744073709551615 := (Lit.wf_int_iff .u64 r.f2).1 hn
  refine (tallboylaw29_FrameCommands.Llm _ _ _ _ _ _ _ _ _ _ _ _).rounds ?_
  have hn' : c.f1.length ≤ 4611686018427387904 := by omega
  have g2 : 0 ≤ c.f2 ∧ c.f2 < 4294967296 := ⟨q2.1, by omega⟩
  have g5 : 0 ≤ c.f5 ∧ c.f5 < 18446744073709551616 := ⟨q5.1, by omega⟩
  have g6 : 0 ≤ c.f6 ∧ c.f6 < 18446744073709551616 := ⟨q6.1, by omega⟩
  have go : 0 ≤ oq ∧ oq < 4294967296 := ⟨qo.1, by omega⟩
  obtain ⟨g, hg, hgf⟩ := great_eq c.f0 c.f1 c.f2 c.f3 c.f4 c.f5 c.f6 c.f7 hn' hk3 wv
  obtain ⟨z, hz⟩ := rgreat_some r.f0 r.f1 r.f2 hl (fun y hm => ⟨(hy y hm).1, (hy y hm).2.2.1⟩)
  clear w2 w5 w6 ho hn
  have key : ∀ b, c.f1.length ≤ 100 ∨ b = true → tallboylaw29_FrameCommands.j0L oq b c.f0 c.f1 c.f2 c.f3 c.f4 c.f5 c.f6 c.f7 r.f0 r.f1 r.f2 = some true := by
    intro b hb'
    rw [tallboylaw29_FrameCommands.j0L_eq]
    cases b with
    | true => rfl
    | false =>
      have h100 : c.f1.length ≤ 100 := hb'.resolve_right (by decide)
      rw [if_neg (by decide), own_eq c.f0 c.f1 c.f2 c.f3 c.f4 c.f5 c.f6 c.f7 h100, Option.bind_some, freq_eq, Option.bind_some]
      have hbad : ∀ e : Int, (badR e).1 = false ∧ (badR e).2.1 = 0 ∧ (badR e).2.2.1 = 0 ∧ (badR e).2.2.2.1 = 0 ∧ (badR e).2.2.2.2.1 = 0 ∧ (badR e).2.2.2.2.2.1 = ⟨#[]⟩ ∧ (badR e).2.2.2.2.2.2.1 = ⟨#[]⟩ ∧ (badR e).2.2.2.2.2.2.2.1 = ⟨#[]⟩ ∧ (badR e).2.2.2.2.2.2.2.2 = e := fun _ => ⟨rfl, rfl, rfl, rfl, rfl, rfl, rfl, rfl, rfl⟩
      have hnil : (⟨#[]⟩ : ByteArray).toList = ([] : List UInt8) := (toList_nil _).2 rfl
      by_cases hchk : chk c.f0 c.f1 c.f2 c.f3 c.f4 c.f5 c.f6 c.f7 = 0
      · by_cases hp : plainB c.f0 c.f1.length c.f3 c.f5 c.f7 = true
        · have hR : rqV c.f0 c.f1 c.f2 c.f3 c.f4 c.f5 c.f6 c.f7 oq = (false, askG tabV (wantV c.f0) c.f7, 0, oq, c.f5, xtV c.f0 c.f2 c.f3 c.f6, keyV c.f1, c.f4, 0) := by
            unfold rqV
            rw [if_pos hchk, if_pos hp]
          obtain ⟨-, -, -, -, -, f6, f7⟩ := chk_fields _ _ _ _ _ _ _ _ hchk
          have hrng := ask_rng tabV (by decide +kernel) (wantV c.f0) c.f7
          have hxs := xt_size c.f0 c.f2 c.f3 c.f6
          have hks := key_size c.f1 f6
          have hback := cmd_back c.f0 c.f1 c.f2 c.f3 c.f4 c.f5 c.f6 c.f7 g2 g6 hchk hp
          rw [hR]
          clear hR hbad hp hchk
          generalize askG tabV (wantV c.f0) c.f7 = op at hrng hback ⊢
          generalize xtV c.f0 c.f2 c.f3 c.f6 = xt at hxs hback ⊢
          generalize keyV c.f1 = ky at hks hback ⊢
          have ok : okF false 0 xt.size ky.size c.f4.size := ⟨hks, hxs, by omega, Or.inr rfl⟩
          have st0 : (0 : Int) ≤ 0 ∧ (0 : Int) < 65536 := by decide
          have hpk := (fpack_eq false op 0 oq c.f5 xt ky c.f4 hrng st0 go).1 ok
          have hun := unp_pk false op 0 oq c.f5 xt ky c.f4 ByteArray.empty hrng st0 go g5 ok
          rw [ByteArray.append_empty] at hun
          have hsz := pk_size false op 0 oq c.f5 xt ky c.f4
          have hfu := funp_eq (pkV false op 0 oq c.f5 xt ky c.f4) (by rw [hsz]; omega)
          rw [hun] at hfu
          obtain ⟨y, -, hy2⟩ := reply_eq false op 0 oq c.f5 xt ky c.f4 r.f0 r.f1 r.f2 5 hrng.1 hrng.2 qn.1 (by omega)
          have hP := rep_P _ _ _ _ _ _ _ _ _ _ _ _ _ hy2
          have hto := to_eq r.f0 r.f1 r.f2 hl
          have hcm := fcmd_eq false op 0 oq c.f5 xt ky c.f4 hrng.1 hrng.2
          rw [hback] at hcm
          have hsm := same_eq c.f1 hn' c.f0 c.f2 c.f3 c.f4 c.f5 c.f6 c.f7
          have J : ∀ u v w : Int, u = 0 → v = 0 → w = 0 → tallboylaw29_FrameCommands.j1L oq u v w false c.f0 c.f1 c.f2 c.f3 c.f4 c.f5 c.f6 c.f7 false op 0 oq c.f5 xt ky c.f4 false op 0 oq c.f5 xt ky c.f4 c.f0 c.f1 c.f2 c.f3 c.f4 c.f5 c.f6 c.f7 = some true := by
            intro u v w hu hv hw
            rw [tallboylaw29_FrameCommands.j1L_eq, if_neg (by decide), if_pos hu, if_pos hv]
            simp only [beq_self_eq_true, Bool.and_self, if_true, if_pos hw, hsm, Option.bind_some]
          simp only [if_true, hpk, hfu, hcm, hto, hy2, Option.bind_some]
          by_cases hok : y.2.2.2.2.2.2.2.2 = true
          · obtain ⟨y1, y2, y3⟩ := hP hok
            rw [if_pos hok, if_pos y2, if_pos y3, y1]
            exact J _ _ _ rfl rfl rfl
          · rw [if_neg hok]
            exact J _ _ _ rfl rfl rfl
        · have hR : rqV c.f0 c.f1 c.f2 c.f3 c.f4 c.f5 c.f6 c.f7 oq = badR 6 := by
            unfold rqV
            rw [if_pos hchk, if_neg hp]
          obtain ⟨e1, e2, e3, e4, e5, e6, e7, e8, e9⟩ := hbad 6
          rw [hR, if_neg (by rw [e9]; decide)]
          simp only [tallboylaw29_From.f, Option.bind_some, e1, e2, e3, e4, e5, e6, e7, e8, hnil, beq_self_eq_true, Bool.and_self, Bool.not_false]
      · have hR : rqV c.f0 c.f1 c.f2 c.f3 c.f4 c.f5 c.f6 c.f7 oq = badR (chk c.f0 c.f1 c.f2 c.f3 c.f4 c.f5 c.f6 c.f7) := by
          unfold rqV
          rw [if_neg hchk]
        obtain ⟨e1, e2, e3, e4, e5, e6, e7, e8, e9⟩ := hbad (chk c.f0 c.f1 c.f2 c.f3 c.f4 c.f5 c.f6 c.f7)
        rw [hR, if_neg (by rw [e9]; exact hchk)]
        simp only [tallboylaw29_From.f, Option.bind_some, e1, e2, e3, e4, e5, e6, e7, e8, hnil, beq_self_eq_true, Bool.and_self, Bool.not_false]
  rw [tallboylaw29_FrameCommands.L_eq, worksC, Option.bind_some, if_pos rfl, hg, Option.bind_some]
  cases g with
  | true =>
    rw [if_pos rfl]
    exact key true (Or.inr rfl)
  | false =>
    rw [if_neg (by decide), hz, Option.bind_some]
    exact key z (Or.inl (hgf rfl).1)
end Go.Proofs.Ytdepkgikdmlgiaa.Pure
