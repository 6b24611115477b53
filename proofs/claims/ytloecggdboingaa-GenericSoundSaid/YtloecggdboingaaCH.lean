/- Chapter 18: GenericResolves. -/
import Derived.Test.YtloecggdboingaaCF
namespace Go.Proofs.Ytloecggdboingaa
open Go.RowKit Go.Proofs
set_option linter.unusedVariables false
set_option linter.unusedSimpArgs false
attribute [local irreducible] PPure

theorem shortB_len {p : Prc} (h : shortB p = true) : p.ds.length ≤ 10 := by
  simp only [shortB, longB, Bool.and_eq_true, Bool.not_eq_true', decide_eq_false_iff_not] at h
  omega
theorem fewB_tiny {l : List Prc} (h : fewB l = true) : Tiny l ∧ l.length ≤ 10 := by
  simp only [fewB, longB, fewAll, Bool.and_eq_true, Bool.not_eq_true', decide_eq_false_iff_not, List.all_eq_true] at h
  exact ⟨⟨by omega, fun p hp => Nat.le_trans (shortB_len (h.2 p hp)) (by decide)⟩, by omega⟩
theorem briefB_len {c : List Act} (h : briefB c = true) : c.length ≤ 10 := by
  simp only [briefB, longB, Bool.and_eq_true, Bool.not_eq_true', decide_eq_false_iff_not] at h
  omega
theorem orE_two (a b : Int) : orE [a, b] = if a = 0 then b else a := by
  simp only [orE]; split <;> simp_all
theorem cast1 : ((1 : Nat) : Int) = 1 := rfl
attribute [go_sem] cast1
theorem ints_self (w : List Int) : intsB w w = true := (intsB_iff w w).2 rfl
set_option maxHeartbeats 2000000 in
theorem law3 (l : List Prc) (c : List Act) : PPure Try.prog 3 [.list .any (l.map encP), .list .any (c.map encA)] (.bool true) := by
  cases hf : fewB l with
  | false =>
    (refine ppure_of_T ok3 (by simp only [List.length_cons, List.length_nil]; decide) ?_; refine t_seq ?_)
    (have hNE := True.intro; have hC := True.intro; repeat' first
        | with_reducible refine k_seq ?_
        | with_reducible refine t_seq ?_
        | with_reducible refine t_reg ?_
        | with_reducible refine t_nil ?_
        | with_reducible refine t_skip ?_
        | with_reducible refine t_ret ?_
        | with_reducible refine k_seq_ret ?_
        | ((with_reducible apply te_val); exact rfl; (intro _ _ _ h; cases h); (focus (simp only [go_sem, hNE, hf]; first | done | exact rfl)))
        | ((with_reducible apply te_callS); (focus (simp only [go_sem, hNE, hf]; first | done | exact rfl)); (focus (simp only [go_sem, hNE, hf]; first | done | exact rfl)); (focus (simp only [go_sem, hNE, hf]; first | done | exact rfl)); (first | exact p12 | exact p13 l | exact p14 c))
        | ((with_reducible apply te_gval); exact rfl; (focus (simp only [go_sem, hNE, hf]; first | done | exact rfl)); exact rfl; (intro _ _ _ h; cases h); (focus (intro hG; simp only [go_sem, hNE, hf, hG]; first | done | exact rfl)))
        | ((with_reducible apply te_gcallS); exact rfl; (focus (simp only [go_sem, hNE, hf]; first | done | exact rfl)); (focus (simp only [go_sem, hNE, hf]; first | done | exact rfl)); (focus (intro hG; simp only [go_sem, hNE, hf, hG]; first | done | exact rfl)); (focus (simp only [go_sem, hNE, hf]; done)); (intro hG; first | exact p12 | exact p13 l | exact p14 c))
        | ((with_reducible apply t_cond); (focus (simp only [go_sem, hNE, hf]; first | done | exact rfl)))
        | (with_reducible intro hc; with_reducible exact Bool.noConfusion hc)
        | (with_reducible intro hc; have hC := And.intro hC hc))
    (first | apply pend rs3 | apply pendN rs3); (focus (simp only [go_sem]; first | done | exact rfl)); (focus (simp only [go_sem]; first | done | exact rfl))
  | true =>
    cases hb : briefB c with
    | false =>
      (refine ppure_of_T ok3 (by simp only [List.length_cons, List.length_nil]; decide) ?_; refine t_seq ?_)
      (have hNE := True.intro; have hC := True.intro; repeat' first
          | with_reducible refine k_seq ?_
          | with_reducible refine t_seq ?_
          | with_reducible refine t_reg ?_
          | with_reducible refine t_nil ?_
          | with_reducible refine t_skip ?_
          | with_reducible refine t_ret ?_
          | with_reducible refine k_seq_ret ?_
          | ((with_reducible apply te_val); exact rfl; (intro _ _ _ h; cases h); (focus (simp only [go_sem, hNE, hf, hb]; first | done | exact rfl)))
          | ((with_reducible apply te_callS); (focus (simp only [go_sem, hNE, hf, hb]; first | done | exact rfl)); (focus (simp only [go_sem, hNE, hf, hb]; first | done | exact rfl)); (focus (simp only [go_sem, hNE, hf, hb]; first | done | exact rfl)); (first | exact p12 | exact p13 l | exact p14 c))
          | ((with_reducible apply te_gval); exact rfl; (focus (simp only [go_sem, hNE, hf, hb]; first | done | exact rfl)); exact rfl; (intro _ _ _ h; cases h); (focus (intro hG; simp only [go_sem, hNE, hf, hb, hG]; first | done | exact rfl)))
          | ((with_reducible apply te_gcallS); exact rfl; (focus (simp only [go_sem, hNE, hf, hb]; first | done | exact rfl)); (focus (simp only [go_sem, hNE, hf, hb]; first | done | exact rfl)); (focus (intro hG; simp only [go_sem, hNE, hf, hb, hG]; first | done | exact rfl)); (focus (simp only [go_sem, hNE, hf, hb]; done)); (intro hG; first | exact p12 | exact p13 l | exact p14 c))
          | ((with_reducible apply t_cond); (focus (simp only [go_sem, hNE, hf, hb]; first | done | exact rfl)))
          | (with_reducible intro hc; with_reducible exact Bool.noConfusion hc)
          | (with_reducible intro hc; have hC := And.intro hC hc))
      (first | apply pend rs3 | apply pendN rs3); (focus (simp only [go_sem]; first | done | exact rfl)); (focus (simp only [go_sem]; first | done | exact rfl))
    | true =>
      obtain ⟨ht, hl⟩ := fewB_tiny hf
      have hcl := briefB_len hb
      have hc1 : c.length ≤ 1000 := by omega
      have q15 := p15 l c ht.small hc1
      have q18 := p18 l c ht.small hc1
      rw [encLE] at q15
      by_cases hD : orE [itfErr l, callErr c] = 0
      · obtain ⟨hi, hk⟩ : itfErr l = 0 ∧ callErr c = 0 := by
          rw [orE_two] at hD
          split at hD
          · exact ⟨by assumption, hD⟩
          · contradiction
        have ec : candidates l c = (candF c l 0, 0) := by rw [candidates, if_pos hD]
        have hwl := candF_len c l 0
        have q21 := p21 l c ht.small hc1
        have q22 := p22 (candF c l 0) (candF c l 0) (by omega) (by omega)
        rw [ints_self] at q22
        rw [resolved, ec] at q18
        rw [ec] at q15
        obtain ⟨w, hw⟩ : ∃ w, candF c l 0 = w := ⟨_, rfl⟩
        rw [hw] at q15 q18 q21 q22 hwl
        cases w with
        | nil =>
          rw [if_neg (by decide)] at q18
          (refine ppure_of_T ok3 (by simp only [List.length_cons, List.length_nil]; decide) ?_; refine t_seq ?_)
          (have hNE := True.intro; have hC := True.intro; repeat' first
              | with_reducible refine k_seq ?_
              | with_reducible refine t_seq ?_
              | with_reducible refine t_reg ?_
              | with_reducible refine t_nil ?_
              | with_reducible refine t_skip ?_
              | with_reducible refine t_ret ?_
              | with_reducible refine k_seq_ret ?_
              | with_reducible refine k_blk_ret ?_
              | with_reducible refine t_block ?_
              | ((with_reducible apply te_val); exact rfl; (intro _ _ _ h; cases h); (focus (simp only [go_sem, hNE, hf, hb, hi, hk, clIs, nmI, nmI6, cast0]; first | done | exact rfl)))
              | ((with_reducible apply te_callS); (focus (simp only [go_sem, hNE, hf, hb, hi, hk, clIs, nmI, nmI6, cast0]; first | done | exact rfl)); (focus (simp only [go_sem, hNE, hf, hb, hi, hk, clIs, nmI, nmI6, cast0]; first | done | exact rfl)); (focus (simp only [go_sem, hNE, hf, hb, hi, hk, clIs, nmI, nmI6, cast0]; first | done | exact rfl)); (first | exact p12 | exact p13 l | exact p14 c | exact p16 l ht.small | exact p17 c hc1 | exact q15 | exact q18 | exact p19 l ht.small | exact p20 c hc1 | exact q21 | exact q22))
              | ((with_reducible apply te_gval); exact rfl; (focus (simp only [go_sem, hNE, hf, hb, hi, hk, clIs, nmI, nmI6, cast0]; first | done | exact rfl)); exact rfl; (intro _ _ _ h; cases h); (focus (intro hG; simp only [go_sem, hNE, hf, hb, hi, hk, clIs, nmI, nmI6, cast0, hG]; first | done | exact rfl)))
              | ((with_reducible apply te_gcallS); exact rfl; (focus (simp only [go_sem, hNE, hf, hb, hi, hk, clIs, nmI, nmI6, cast0]; first | done | exact rfl)); (focus (simp only [go_sem, hNE, hf, hb, hi, hk, clIs, nmI, nmI6, cast0]; first | done | exact rfl)); (focus (intro hG; simp only [go_sem, hNE, hf, hb, hi, hk, clIs, nmI, nmI6, cast0, hG]; first | done | exact rfl)); (focus (simp only [go_sem, hNE, hf, hb, hi, hk, clIs, nmI, nmI6, cast0]; done)); (intro hG; first | exact p12 | exact p13 l | exact p14 c | exact p16 l ht.small | exact p17 c hc1 | exact q15 | exact q18 | exact p19 l ht.small | exact p20 c hc1 | exact q21 | exact q22))
              | ((with_reducible apply t_cond); (focus (simp only [go_sem, hNE, hf, hb, hi, hk, clIs, nmI, nmI6, cast0]; first | done | exact rfl)))
              | (with_reducible intro hc; with_reducible exact Bool.noConfusion hc)
              | (with_reducible intro hc; have hC := And.intro hC hc))
          (first | apply pend rs3 | apply pendN rs3); (focus (simp only [go_sem, resErr, orE, broken]; first | done | exact rfl)); (focus (simp only [go_sem, resErr, orE, broken]; first | done | exact rfl))
        | cons v w =>
          cases w with
          | nil =>
            rw [if_pos (by rfl)] at q18
            simp only [List.headD_cons] at q18
            (refine ppure_of_T ok3 (by simp only [List.length_cons, List.length_nil]; decide) ?_; refine t_seq ?_)
            (have hNE := True.intro; have hC := True.intro; repeat' first
                | with_reducible refine k_seq ?_
                | with_reducible refine t_seq ?_
                | with_reducible refine t_reg ?_
                | with_reducible refine t_nil ?_
                | with_reducible refine t_skip ?_
                | with_reducible refine t_ret ?_
                | with_reducible refine k_seq_ret ?_
                | with_reducible refine k_blk_ret ?_
                | with_reducible refine t_block ?_
                | ((with_reducible apply te_val); exact rfl; (intro _ _ _ h; cases h); (focus (simp only [go_sem, hNE, hf, hb, hi, hk, clIs, nmI, nmI6, cast0, encI]; first | done | exact rfl)))
                | ((with_reducible apply te_callS); (focus (simp only [go_sem, hNE, hf, hb, hi, hk, clIs, nmI, nmI6, cast0, encI]; first | done | exact rfl)); (focus (simp only [go_sem, hNE, hf, hb, hi, hk, clIs, nmI, nmI6, cast0, encI]; first | done | exact rfl)); (focus (simp only [go_sem, hNE, hf, hb, hi, hk, clIs, nmI, nmI6, cast0, encI]; first | done | exact rfl)); (first | exact p12 | exact p13 l | exact p14 c | exact p16 l ht.small | exact p17 c hc1 | exact q15 | exact q18 | exact p19 l ht.small | exact p20 c hc1 | exact q21 | exact q22))
                | ((with_reducible apply te_gval); exact rfl; (focus (simp only [go_sem, hNE, hf, hb, hi, hk, clIs, nmI, nmI6, cast0, encI]; first | done | exact rfl)); exact rfl; (intro _ _ _ h; cases h); (focus (intro hG; simp only [go_sem, hNE, hf, hb, hi, hk, clIs, nmI, nmI6, cast0, encI, hG]; first | done | exact rfl)))
                | ((with_reducible apply te_gcallS); exact rfl; (focus (simp only [go_sem, hNE, hf, hb, hi, hk, clIs, nmI, nmI6, cast0, encI]; first | done | exact rfl)); (focus (simp only [go_sem, hNE, hf, hb, hi, hk, clIs, nmI, nmI6, cast0, encI]; first | done | exact rfl)); (focus (intro hG; simp only [go_sem, hNE, hf, hb, hi, hk, clIs, nmI, nmI6, cast0, encI, hG]; first | done | exact rfl)); (focus (simp only [go_sem, hNE, hf, hb, hi, hk, clIs, nmI, nmI6, cast0, encI]; done)); (intro hG; first | exact p12 | exact p13 l | exact p14 c | exact p16 l ht.small | exact p17 c hc1 | exact q15 | exact q18 | exact p19 l ht.small | exact p20 c hc1 | exact q21 | exact q22))
                | ((with_reducible apply t_cond); (focus (simp only [go_sem, hNE, hf, hb, hi, hk, clIs, nmI, nmI6, cast0, encI]; first | done | exact rfl)))
                | (with_reducible intro hc; with_reducible exact Bool.noConfusion hc)
                | (with_reducible intro hc; have hC := And.intro hC hc))
            (first | apply pend rs3 | apply pendN rs3); (focus (simp only [go_sem]; first | done | exact rfl)); (focus (simp only [go_sem]; first | done | exact rfl))
          | cons v2 w =>
            have h2 : ((w.length + 1 + 1 : Nat) : Int) = 0 ↔ False := by simp; omega
            have h3 : ((w.length + 1 + 1 : Nat) : Int) = 1 ↔ False := by simp; omega
            have hre : resErr (v :: v2 :: w, 0) = 30 := by
              simp only [resErr, List.length_cons]
              rw [decide_eq_true (by omega), decide_eq_false (by omega)]; rfl
            rw [if_neg (by rw [hre]; decide), hre] at q18
            (refine ppure_of_T ok3 (by simp only [List.length_cons, List.length_nil]; decide) ?_; refine t_seq ?_)
            (have hNE := True.intro; have hC := True.intro; repeat' first
                | with_reducible refine k_seq ?_
                | with_reducible refine t_seq ?_
                | with_reducible refine t_reg ?_
                | with_reducible refine t_nil ?_
                | with_reducible refine t_skip ?_
                | with_reducible refine t_ret ?_
                | with_reducible refine k_blk ?_
                | with_reducible refine t_block ?_
                | ((with_reducible apply te_val); exact rfl; (intro _ _ _ h; cases h); (focus (simp only [go_sem, hNE, hf, hb, hi, hk, clIs, nmI, nmI6, cast0, encI, h2, h3]; first | done | exact rfl)))
                | ((with_reducible apply te_callS); (focus (simp only [go_sem, hNE, hf, hb, hi, hk, clIs, nmI, nmI6, cast0, encI, h2, h3]; first | done | exact rfl)); (focus (simp only [go_sem, hNE, hf, hb, hi, hk, clIs, nmI, nmI6, cast0, encI, h2, h3]; first | done | exact rfl)); (focus (simp only [go_sem, hNE, hf, hb, hi, hk, clIs, nmI, nmI6, cast0, encI, h2, h3]; first | done | exact rfl)); (first | exact p12 | exact p13 l | exact p14 c | exact p16 l ht.small | exact p17 c hc1 | exact q15 | exact q18 | exact p19 l ht.small | exact p20 c hc1 | exact q21 | exact q22))
                | ((with_reducible apply te_gval); exact rfl; (focus (simp only [go_sem, hNE, hf, hb, hi, hk, clIs, nmI, nmI6, cast0, encI, h2, h3]; first | done | exact rfl)); exact rfl; (intro _ _ _ h; cases h); (focus (intro hG; simp only [go_sem, hNE, hf, hb, hi, hk, clIs, nmI, nmI6, cast0, encI, h2, h3, hG]; first | done | exact rfl)))
                | ((with_reducible apply te_gcallS); exact rfl; (focus (simp only [go_sem, hNE, hf, hb, hi, hk, clIs, nmI, nmI6, cast0, encI, h2, h3]; first | done | exact rfl)); (focus (simp only [go_sem, hNE, hf, hb, hi, hk, clIs, nmI, nmI6, cast0, encI, h2, h3]; first | done | exact rfl)); (focus (intro hG; simp only [go_sem, hNE, hf, hb, hi, hk, clIs, nmI, nmI6, cast0, encI, h2, h3, hG]; first | done | exact rfl)); (focus (simp only [go_sem, hNE, hf, hb, hi, hk, clIs, nmI, nmI6, cast0, encI, h2, h3]; done)); (intro hG; first | exact p12 | exact p13 l | exact p14 c | exact p16 l ht.small | exact p17 c hc1 | exact q15 | exact q18 | exact p19 l ht.small | exact p20 c hc1 | exact q21 | exact q22))
                | ((with_reducible apply t_cond); (focus (simp only [go_sem, hNE, hf, hb, hi, hk, clIs, nmI, nmI6, cast0, encI, h2, h3]; first | done | exact rfl)))
                | (with_reducible intro hc; with_reducible exact Bool.noConfusion hc)
                | (with_reducible intro hc; have hC := And.intro hC hc))
            (first | apply pend rs3 | apply pendN rs3); (focus (simp only [go_sem]; first | done | exact rfl)); (focus (simp only [go_sem]; first | done | exact rfl))
      · have ec : candidates l c = ([], orE [itfErr l, callErr c]) := by rw [candidates, if_neg hD]
        have er : resolved l c = (0, orE [itfErr l, callErr c]) := by
          have : resErr (candidates l c) = orE [itfErr l, callErr c] := by
            rw [ec, resErr, orE_two, if_neg hD]
          rw [resolved, if_neg (by rw [this]; exact hD), this]
        rw [ec] at q15
        rw [er] at q18
        by_cases hi : itfErr l = 0
        · have hD2 : orE [itfErr l, callErr c] = callErr c := by rw [orE_two, if_pos hi]
          rw [hD2] at q15 q18 hD
          (refine ppure_of_T ok3 (by simp only [List.length_cons, List.length_nil]; decide) ?_; refine t_seq ?_)
          (have hNE := True.intro; have hC := True.intro; repeat' first
              | with_reducible refine k_seq ?_
              | with_reducible refine t_seq ?_
              | with_reducible refine t_reg ?_
              | with_reducible refine t_nil ?_
              | with_reducible refine t_skip ?_
              | with_reducible refine t_ret ?_
              | with_reducible refine k_seq_ret ?_
              | ((with_reducible apply te_val); exact rfl; (intro _ _ _ h; cases h); (focus (simp only [go_sem, hNE, hf, hb, hi, hD, cast0]; first | done | exact rfl)))
              | ((with_reducible apply te_callS); (focus (simp only [go_sem, hNE, hf, hb, hi, hD, cast0]; first | done | exact rfl)); (focus (simp only [go_sem, hNE, hf, hb, hi, hD, cast0]; first | done | exact rfl)); (focus (simp only [go_sem, hNE, hf, hb, hi, hD, cast0]; first | done | exact rfl)); (first | exact p12 | exact p13 l | exact p14 c | exact p16 l ht.small | exact p17 c hc1 | exact q15 | exact q18 | exact p19 l ht.small | exact p20 c hc1))
              | ((with_reducible apply te_gval); exact rfl; (focus (simp only [go_sem, hNE, hf, hb, hi, hD, cast0]; first | done | exact rfl)); exact rfl; (intro _ _ _ h; cases h); (focus (intro hG; simp only [go_sem, hNE, hf, hb, hi, hD, cast0, hG]; first | done | exact rfl)))
              | ((with_reducible apply te_gcallS); exact rfl; (focus (simp only [go_sem, hNE, hf, hb, hi, hD, cast0]; first | done | exact rfl)); (focus (simp only [go_sem, hNE, hf, hb, hi, hD, cast0]; first | done | exact rfl)); (focus (intro hG; simp only [go_sem, hNE, hf, hb, hi, hD, cast0, hG]; first | done | exact rfl)); (focus (simp only [go_sem, hNE, hf, hb, hi, hD, cast0]; done)); (intro hG; first | exact p12 | exact p13 l | exact p14 c | exact p16 l ht.small | exact p17 c hc1 | exact q15 | exact q18 | exact p19 l ht.small | exact p20 c hc1))
              | ((with_reducible apply t_cond); (focus (simp only [go_sem, hNE, hf, hb, hi, hD, cast0]; first | done | exact rfl)))
              | (with_reducible intro hc; with_reducible exact Bool.noConfusion hc)
              | (with_reducible intro hc; have hC := And.intro hC hc))
          (first | apply pend rs3 | apply pendN rs3); (focus (simp only [go_sem]; first | done | exact rfl)); (focus (simp only [go_sem]; first | done | exact rfl))
        · have hD2 : orE [itfErr l, callErr c] = itfErr l := by rw [orE_two, if_neg hi]
          rw [hD2] at q15 q18
          (refine ppure_of_T ok3 (by simp only [List.length_cons, List.length_nil]; decide) ?_; refine t_seq ?_)
          (have hNE := True.intro; have hC := True.intro; repeat' first
              | with_reducible refine k_seq ?_
              | with_reducible refine t_seq ?_
              | with_reducible refine t_reg ?_
              | with_reducible refine t_nil ?_
              | with_reducible refine t_skip ?_
              | with_reducible refine t_ret ?_
              | with_reducible refine k_seq_ret ?_
              | ((with_reducible apply te_val); exact rfl; (intro _ _ _ h; cases h); (focus (simp only [go_sem, hNE, hf, hb, hi, cast0]; first | done | exact rfl)))
              | ((with_reducible apply te_callS); (focus (simp only [go_sem, hNE, hf, hb, hi, cast0]; first | done | exact rfl)); (focus (simp only [go_sem, hNE, hf, hb, hi, cast0]; first | done | exact rfl)); (focus (simp only [go_sem, hNE, hf, hb, hi, cast0]; first | done | exact rfl)); (first | exact p12 | exact p13 l | exact p14 c | exact p16 l ht.small | exact p17 c hc1 | exact q15 | exact q18 | exact p19 l ht.small | exact p20 c hc1))
              | ((with_reducible apply te_gval); exact rfl; (focus (simp only [go_sem, hNE, hf, hb, hi, cast0]; first | done | exact rfl)); exact rfl; (intro _ _ _ h; cases h); (focus (intro hG; simp only [go_sem, hNE, hf, hb, hi, cast0, hG]; first | done | exact rfl)))
              | ((with_reducible apply te_gcallS); exact rfl; (focus (simp only [go_sem, hNE, hf, hb, hi, cast0]; first | done | exact rfl)); (focus (simp only [go_sem, hNE, hf, hb, hi, cast0]; first | done | exact rfl)); (focus (intro hG; simp only [go_sem, hNE, hf, hb, hi, cast0, hG]; first | done | exact rfl)); (focus (simp only [go_sem, hNE, hf, hb, hi, cast0]; done)); (intro hG; first | exact p12 | exact p13 l | exact p14 c | exact p16 l ht.small | exact p17 c hc1 | exact q15 | exact q18 | exact p19 l ht.small | exact p20 c hc1))
              | ((with_reducible apply t_cond); (focus (simp only [go_sem, hNE, hf, hb, hi, cast0]; first | done | exact rfl)))
              | (with_reducible intro hc; with_reducible exact Bool.noConfusion hc)
              | (with_reducible intro hc; have hC := And.intro hC hc))
          (first | apply pend rs3 | apply pendN rs3); (focus (simp only [go_sem]; first | done | exact rfl)); (focus (simp only [go_sem]; first | done | exact rfl))
end Go.Proofs.Ytloecggdboingaa
namespace Go.Proofs.Ytloecggdboingaa
open Go.RowKit Go.Proofs
set_option linter.unusedVariables false
set_option linter.unusedSimpArgs false
attribute [local irreducible] PPure

theorem srch_some {α : Type} {f : Nat → Option α} {x : α} : ∀ (k i : Nat), srch f k i = some x → ∃ j, i ≤ j ∧ j < i + k ∧ f j = some x
  | k + 1, i, h => by
    rw [srch] at h
    split at h
    · rename_i y hy
      obtain rfl := Option.some.inj h
      exact ⟨i, Nat.le_refl _, by omega, hy⟩
    · obtain ⟨j, h1, h2, h3⟩ := srch_some k (i + 1) h
      exact ⟨j, by omega, by omega, h3⟩
theorem commonF_spec {a b : Prc} {x : List Act} (h : commonF a b = some x) : ∃ k, k ≤ a.ds.length ∧ k ≤ b.ds.length ∧ x = callOfF b.ds k a.ds 0 ∧ (matchF a x).isSome = true ∧ (matchF b x).isSome = true := by
  obtain ⟨k, _, h2, h3⟩ := srch_some _ _ h
  unfold cm at h3
  split at h3
  · rename_i hc
    obtain rfl := Option.some.inj h3
    simp only [Bool.and_eq_true] at hc
    exact ⟨k, by omega, by omega, rfl, hc.1, hc.2⟩
  · cases h3
theorem actEq_self (x : Act) : actEq x x = true := by simp [actEq]
theorem sameF_self : ∀ l : List Act, sameF l l = true
  | [] => rfl
  | x :: l => by rw [sameF, if_pos (actEq_self x)]; exact sameF_self l

theorem mstep_len {ds : List Dum} {i : Nat} {x : Act} {out : List Int} {r : Int} {o : List Int × Int} (h : mstep ds i x out r = some o) : o.1.length = out.length := by
  unfold mstep at h
  split at h
  · cases h
  · split at h
    · unfold mtake at h
      split at h
      · cases h
      · split at h
        · split at h
          · cases h
          · obtain rfl := Option.some.inj h
            simp
        · obtain rfl := Option.some.inj h
          simp
    · cases h
theorem mloop_len {ds : List Dum} : ∀ (c : List Act) (i : Nat) (out : List Int) (r : Int) (w : List Int), mloop ds c i out r = some w → w.length = out.length
  | [], _, out, _, w, h => by rw [mloop] at h; rw [Option.some.inj h]
  | x :: c, i, out, r, w, h => by
    rw [mloop] at h
    obtain ⟨o, ho, h⟩ := Option.bind_eq_some_iff.1 h
    rw [mloop_len c _ _ _ _ h, mstep_len ho]
theorem matchF_len {p : Prc} {c : List Act} {w : List Int} (h : matchF p c = some w) : w.length = p.ds.length := by
  unfold matchF at h
  obtain ⟨o, ho, h⟩ := Option.bind_eq_some_iff.1 h
  split at h
  · obtain rfl := Option.some.inj h
    rw [mloop_len _ _ _ _ _ ho]; simp
  · cases h
set_option maxHeartbeats 2000000 in
theorem law4 (a b : Prc) : PPure Try.prog 4 [encP a, encP b] (.bool true) := by
  simp only [encP]
  have s1 := p23 a
  have s2 := p23 b
  simp only [encP] at s1 s2
  cases ha : shortB a with
  | false =>
    (refine ppure_of_T ok4 (by simp only [List.length_cons, List.length_nil]; decide) ?_; refine t_seq ?_)
    (have hNE := True.intro; have hC := True.intro; repeat' first
        | with_reducible refine k_seq ?_
        | with_reducible refine t_seq ?_
        | with_reducible refine t_reg ?_
        | with_reducible refine t_nil ?_
        | with_reducible refine t_skip ?_
        | with_reducible refine t_ret ?_
        | with_reducible refine k_seq_ret ?_
        | ((with_reducible apply te_val); exact rfl; (intro _ _ _ h; cases h); (focus (simp only [go_sem, hNE, ha, encP]; first | done | exact rfl)))
        | ((with_reducible apply te_callS); (focus (simp only [go_sem, hNE, ha, encP]; first | done | exact rfl)); (focus (simp only [go_sem, hNE, ha, encP]; first | done | exact rfl)); (focus (simp only [go_sem, hNE, ha, encP]; first | done | exact rfl)); (first | exact p12 | exact s1 | exact s2))
        | ((with_reducible apply te_gval); exact rfl; (focus (simp only [go_sem, hNE, ha, encP]; first | done | exact rfl)); exact rfl; (intro _ _ _ h; cases h); (focus (intro hG; simp only [go_sem, hNE, ha, encP, hG]; first | done | exact rfl)))
        | ((with_reducible apply te_gno); exact rfl; (focus (simp only [go_sem, hNE, ha, encP]; first | done | exact rfl)); exact rfl)
        | ((with_reducible apply te_box); (focus (simp only [go_sem, hNE, ha, encP]; first | done | exact rfl)); exact rfl; (focus (simp only [go_sem, hNE, ha, encP]; first | done | exact rfl)))
        | ((with_reducible apply t_cond); (focus (simp only [go_sem, hNE, ha, encP]; first | done | exact rfl)))
        | (with_reducible intro hc; with_reducible exact Bool.noConfusion hc)
        | (with_reducible intro hc; have hC := And.intro hC hc))
    (first | apply pend rs4 | apply pendN rs4); (focus (simp only [go_sem]; first | done | exact rfl)); (focus (simp only [go_sem]; first | done | exact rfl))
  | true =>
    cases hb : shortB b with
    | false =>
      (refine ppure_of_T ok4 (by simp only [List.length_cons, List.length_nil]; decide) ?_; refine t_seq ?_)
      (have hNE := True.intro; have hC := True.intro; repeat' first
          | with_reducible refine k_seq ?_
          | with_reducible refine t_seq ?_
          | with_reducible refine t_reg ?_
          | with_reducible refine t_nil ?_
          | with_reducible refine t_skip ?_
          | with_reducible refine t_ret ?_
          | with_reducible refine k_seq_ret ?_
          | ((with_reducible apply te_val); exact rfl; (intro _ _ _ h; cases h); (focus (simp only [go_sem, hNE, ha, hb, encP]; first | done | exact rfl)))
          | ((with_reducible apply te_callS); (focus (simp only [go_sem, hNE, ha, hb, encP]; first | done | exact rfl)); (focus (simp only [go_sem, hNE, ha, hb, encP]; first | done | exact rfl)); (focus (simp only [go_sem, hNE, ha, hb, encP]; first | done | exact rfl)); (first | exact p12 | exact s1 | exact s2))
          | ((with_reducible apply te_gval); exact rfl; (focus (simp only [go_sem, hNE, ha, hb, encP]; first | done | exact rfl)); exact rfl; (intro _ _ _ h; cases h); (focus (intro hG; simp only [go_sem, hNE, ha, hb, encP, hG]; first | done | exact rfl)))
          | ((with_reducible apply te_gcallS); exact rfl; (focus (simp only [go_sem, hNE, ha, hb, encP]; first | done | exact rfl)); (focus (simp only [go_sem, hNE, ha, hb, encP]; first | done | exact rfl)); (focus (intro hG; simp only [go_sem, hNE, ha, hb, encP, hG]; first | done | exact rfl)); (focus (simp only [go_sem, hNE, ha, hb, encP]; done)); (intro hG; first | exact p12 | exact s1 | exact s2))
          | ((with_reducible apply te_box); (focus (simp only [go_sem, hNE, ha, hb, encP]; first | done | exact rfl)); exact rfl; (focus (simp only [go_sem, hNE, ha, hb, encP]; first | done | exact rfl)))
          | ((with_reducible apply t_cond); (focus (simp only [go_sem, hNE, ha, hb, encP]; first | done | exact rfl)))
          | (with_reducible intro hc; with_reducible exact Bool.noConfusion hc)
          | (with_reducible intro hc; have hC := And.intro hC hc))
      (first | apply pend rs4 | apply pendN rs4); (focus (simp only [go_sem]; first | done | exact rfl)); (focus (simp only [go_sem]; first | done | exact rfl))
    | true =>
      have la := shortB_len ha
      have lb := shortB_len hb
      have q25a := p25 a (by omega)
      have q25b := p25 b (by omega)
      have q24 := p24 a b (by omega) (by omega)
      have q26 := p26 a b (by omega) (by omega)
      have q27 := p27 a b (by omega) (by omega)
      simp only [encP] at q25a q25b q24 q26 q27
      by_cases hD : bothErr a b = 0
      · rw [commonCall, if_pos hD] at q24
        cases hcf : commonF a b with
        | none =>
          rw [hcf] at q24 q27
          (refine ppure_of_T ok4 (by simp only [List.length_cons, List.length_nil]; decide) ?_; refine t_seq ?_)
          (have hNE := True.intro; have hC := True.intro; repeat' first
              | ((with_reducible apply te_drwA); (focus (simp only [effFlA, List.map_cons, List.map_nil]; exact rfl)); (focus decide +kernel))
              | with_reducible refine k_seq ?_
              | with_reducible refine t_seq ?_
              | with_reducible refine t_reg ?_
              | with_reducible refine t_nil ?_
              | with_reducible refine t_skip ?_
              | with_reducible refine t_ret ?_
              | with_reducible refine k_seq_ret ?_
              | with_reducible refine m_nil ?_
              | ((with_reducible apply te_val); exact rfl; (intro _ _ _ h; cases h); (focus (simp only [go_sem, hNE, ha, hb, hD, encP, cast0]; first | done | exact rfl)))
              | ((with_reducible apply te_callS); (focus (simp only [go_sem, hNE, ha, hb, hD, encP, cast0]; first | done | exact rfl)); (focus (simp only [go_sem, hNE, ha, hb, hD, encP, cast0]; first | done | exact rfl)); (focus (simp only [go_sem, hNE, ha, hb, hD, encP, cast0]; first | done | exact rfl)); (first | exact p12 | exact s1 | exact s2 | exact q25a | exact q25b | exact q24 | exact q26 | exact q27))
              | ((with_reducible apply te_gval); exact rfl; (focus (simp only [go_sem, hNE, ha, hb, hD, encP, cast0]; first | done | exact rfl)); exact rfl; (intro _ _ _ h; cases h); (focus (intro hG; simp only [go_sem, hNE, ha, hb, hD, encP, cast0, hG]; first | done | exact rfl)))
              | ((with_reducible apply te_gcallS); exact rfl; (focus (simp only [go_sem, hNE, ha, hb, hD, encP, cast0]; first | done | exact rfl)); (focus (simp only [go_sem, hNE, ha, hb, hD, encP, cast0]; first | done | exact rfl)); (focus (intro hG; simp only [go_sem, hNE, ha, hb, hD, encP, cast0, hG]; first | done | exact rfl)); (focus (simp only [go_sem, hNE, ha, hb, hD, encP, cast0]; done)); (intro hG; first | exact p12 | exact s1 | exact s2 | exact q25a | exact q25b | exact q24 | exact q26 | exact q27))
              | ((with_reducible apply me_val); exact rfl; (intro _ _ _ h; cases h); (focus (simp only [go_sem, hNE, ha, hb, hD, encP, cast0]; first | done | exact rfl)))
              | ((with_reducible apply me_callS); (focus (simp only [go_sem, hNE, ha, hb, hD, encP, cast0]; first | done | exact rfl)); (focus (simp only [go_sem, hNE, ha, hb, hD, encP, cast0]; first | done | exact rfl)); (focus (simp only [go_sem, hNE, ha, hb, hD, encP, cast0]; first | done | exact rfl)); (first | exact p12 | exact s1 | exact s2 | exact q25a | exact q25b | exact q24 | exact q26 | exact q27))
              | ((with_reducible apply te_box); (focus (simp only [go_sem, hNE, ha, hb, hD, encP, cast0]; first | done | exact rfl)); exact rfl; (focus (simp only [go_sem, hNE, ha, hb, hD, encP, cast0]; first | done | exact rfl)))
              | ((with_reducible apply t_cond); (focus (simp only [go_sem, hNE, ha, hb, hD, encP, cast0]; first | done | exact rfl)))
              | (with_reducible intro hc; with_reducible exact Bool.noConfusion hc)
              | (with_reducible intro hc; have hC := And.intro hC hc))
          (first | apply pend rs4 | apply pendN rs4); (focus (simp only [go_sem, broken]; first | done | exact rfl)); (focus (simp only [go_sem, broken]; first | done | exact rfl))
        | some x =>
          obtain ⟨k, _, _, hx, _⟩ := commonF_spec hcf
          have hxl : x.length ≤ 1000 := by rw [hx]; exact Nat.le_trans (callOfF_len _ _ _ _) (by omega)
          have q28 := p28 x x hxl hxl
          rw [sameF_self, decide_eq_true rfl, Bool.and_true] at q28
          rw [hcf] at q24 q27
          (refine ppure_of_T ok4 (by simp only [List.length_cons, List.length_nil]; decide) ?_; refine t_seq ?_)
          (have hNE := True.intro; have hC := True.intro; repeat' first
              | ((with_reducible apply te_drwA); (focus (simp only [effFlA, List.map_cons, List.map_nil]; exact rfl)); (focus decide +kernel))
              | with_reducible refine k_seq ?_
              | with_reducible refine t_seq ?_
              | with_reducible refine t_reg ?_
              | with_reducible refine t_nil ?_
              | with_reducible refine t_skip ?_
              | with_reducible refine t_ret ?_
              | with_reducible refine m_nil ?_
              | ((with_reducible apply te_val); exact rfl; (intro _ _ _ h; cases h); (focus (simp only [go_sem, hNE, ha, hb, hD, encP, cast0, clAs, nmA, nmA6]; first | done | exact rfl)))
              | ((with_reducible apply te_callS); (focus (simp only [go_sem, hNE, ha, hb, hD, encP, cast0, clAs, nmA, nmA6]; first | done | exact rfl)); (focus (simp only [go_sem, hNE, ha, hb, hD, encP, cast0, clAs, nmA, nmA6]; first | done | exact rfl)); (focus (simp only [go_sem, hNE, ha, hb, hD, encP, cast0, clAs, nmA, nmA6]; first | done | exact rfl)); (first | exact p12 | exact s1 | exact s2 | exact q25a | exact q25b | exact q24 | exact q26 | exact q27 | exact q28))
              | ((with_reducible apply te_gval); exact rfl; (focus (simp only [go_sem, hNE, ha, hb, hD, encP, cast0, clAs, nmA, nmA6]; first | done | exact rfl)); exact rfl; (intro _ _ _ h; cases h); (focus (intro hG; simp only [go_sem, hNE, ha, hb, hD, encP, cast0, clAs, nmA, nmA6, hG]; first | done | exact rfl)))
              | ((with_reducible apply te_gcallS); exact rfl; (focus (simp only [go_sem, hNE, ha, hb, hD, encP, cast0, clAs, nmA, nmA6]; first | done | exact rfl)); (focus (simp only [go_sem, hNE, ha, hb, hD, encP, cast0, clAs, nmA, nmA6]; first | done | exact rfl)); (focus (intro hG; simp only [go_sem, hNE, ha, hb, hD, encP, cast0, clAs, nmA, nmA6, hG]; first | done | exact rfl)); (focus (simp only [go_sem, hNE, ha, hb, hD, encP, cast0, clAs, nmA, nmA6]; done)); (intro hG; first | exact p12 | exact s1 | exact s2 | exact q25a | exact q25b | exact q24 | exact q26 | exact q27 | exact q28))
              | ((with_reducible apply me_val); exact rfl; (intro _ _ _ h; cases h); (focus (simp only [go_sem, hNE, ha, hb, hD, encP, cast0, clAs, nmA, nmA6]; first | done | exact rfl)))
              | ((with_reducible apply me_callS); (focus (simp only [go_sem, hNE, ha, hb, hD, encP, cast0, clAs, nmA, nmA6]; first | done | exact rfl)); (focus (simp only [go_sem, hNE, ha, hb, hD, encP, cast0, clAs, nmA, nmA6]; first | done | exact rfl)); (focus (simp only [go_sem, hNE, ha, hb, hD, encP, cast0, clAs, nmA, nmA6]; first | done | exact rfl)); (first | exact p12 | exact s1 | exact s2 | exact q25a | exact q25b | exact q24 | exact q26 | exact q27 | exact q28))
              | ((with_reducible apply te_box); (focus (simp only [go_sem, hNE, ha, hb, hD, encP, cast0, clAs, nmA, nmA6]; first | done | exact rfl)); exact rfl; (focus (simp only [go_sem, hNE, ha, hb, hD, encP, cast0, clAs, nmA, nmA6]; first | done | exact rfl)))
              | ((with_reducible apply t_cond); (focus (simp only [go_sem, hNE, ha, hb, hD, encP, cast0, clAs, nmA, nmA6]; first | done | exact rfl)))
              | (with_reducible intro hc; with_reducible exact Bool.noConfusion hc)
              | (with_reducible intro hc; have hC := And.intro hC hc))
          (first | apply pend rs4 | apply pendN rs4); (focus (simp only [go_sem, broken]; first | done | exact rfl)); (focus (simp only [go_sem, broken]; first | done | exact rfl))
      · rw [commonCall, if_neg hD] at q24
        (refine ppure_of_T ok4 (by simp only [List.length_cons, List.length_nil]; decide) ?_; refine t_seq ?_)
        (have hNE := True.intro; have hC := True.intro; repeat' first
            | ((with_reducible apply te_drwA); (focus (simp only [effFlA, List.map_cons, List.map_nil]; exact rfl)); (focus decide +kernel))
            | with_reducible refine k_seq ?_
            | with_reducible refine t_seq ?_
            | with_reducible refine t_reg ?_
            | with_reducible refine t_nil ?_
            | with_reducible refine t_skip ?_
            | with_reducible refine t_ret ?_
            | with_reducible refine k_seq_ret ?_
            | with_reducible refine m_nil ?_
            | ((with_reducible apply te_val); exact rfl; (intro _ _ _ h; cases h); (focus (simp only [go_sem, hNE, ha, hb, hD, encP, cast0]; first | done | exact rfl)))
            | ((with_reducible apply te_callS); (focus (simp only [go_sem, hNE, ha, hb, hD, encP, cast0]; first | done | exact rfl)); (focus (simp only [go_sem, hNE, ha, hb, hD, encP, cast0]; first | done | exact rfl)); (focus (simp only [go_sem, hNE, ha, hb, hD, encP, cast0]; first | done | exact rfl)); (first | exact p12 | exact s1 | exact s2 | exact q25a | exact q25b | exact q24 | exact q26 | exact q27))
            | ((with_reducible apply te_gval); exact rfl; (focus (simp only [go_sem, hNE, ha, hb, hD, encP, cast0]; first | done | exact rfl)); exact rfl; (intro _ _ _ h; cases h); (focus (intro hG; simp only [go_sem, hNE, ha, hb, hD, encP, cast0, hG]; first | done | exact rfl)))
            | ((with_reducible apply te_gcallS); exact rfl; (focus (simp only [go_sem, hNE, ha, hb, hD, encP, cast0]; first | done | exact rfl)); (focus (simp only [go_sem, hNE, ha, hb, hD, encP, cast0]; first | done | exact rfl)); (focus (intro hG; simp only [go_sem, hNE, ha, hb, hD, encP, cast0, hG]; first | done | exact rfl)); (focus (simp only [go_sem, hNE, ha, hb, hD, encP, cast0]; done)); (intro hG; first | exact p12 | exact s1 | exact s2 | exact q25a | exact q25b | exact q24 | exact q26 | exact q27))
            | ((with_reducible apply me_val); exact rfl; (intro _ _ _ h; cases h); (focus (simp only [go_sem, hNE, ha, hb, hD, encP, cast0]; first | done | exact rfl)))
            | ((with_reducible apply me_callS); (focus (simp only [go_sem, hNE, ha, hb, hD, encP, cast0]; first | done | exact rfl)); (focus (simp only [go_sem, hNE, ha, hb, hD, encP, cast0]; first | done | exact rfl)); (focus (simp only [go_sem, hNE, ha, hb, hD, encP, cast0]; first | done | exact rfl)); (first | exact p12 | exact s1 | exact s2 | exact q25a | exact q25b | exact q24 | exact q26 | exact q27))
            | ((with_reducible apply te_box); (focus (simp only [go_sem, hNE, ha, hb, hD, encP, cast0]; first | done | exact rfl)); exact rfl; (focus (simp only [go_sem, hNE, ha, hb, hD, encP, cast0]; first | done | exact rfl)))
            | ((with_reducible apply t_cond); (focus (simp only [go_sem, hNE, ha, hb, hD, encP, cast0]; first | done | exact rfl)))
            | (with_reducible intro hc; with_reducible exact Bool.noConfusion hc)
            | (with_reducible intro hc; have hC := And.intro hC hc))
        (first | apply pend rs4 | apply pendN rs4); (focus (simp only [go_sem]; first | done | exact rfl)); (focus (simp only [go_sem]; first | done | exact rfl))

set_option maxHeartbeats 2000000 in
theorem law6 (p : Prc) (c : List Act) : PPure Try.prog 6 [encP p, .list .any (c.map encA)] (.bool true) := by
  simp only [encP]
  have s1 := p23 p
  simp only [encP] at s1
  cases ha : shortB p with
  | false =>
    (refine ppure_of_T ok6 (by simp only [List.length_cons, List.length_nil]; decide) ?_; refine t_seq ?_)
    (have hNE := True.intro; have hC := True.intro; repeat' first
        | with_reducible refine k_seq ?_
        | with_reducible refine t_seq ?_
        | with_reducible refine t_reg ?_
        | with_reducible refine t_nil ?_
        | with_reducible refine t_skip ?_
        | with_reducible refine t_ret ?_
        | with_reducible refine k_seq_ret ?_
        | ((with_reducible apply te_val); exact rfl; (intro _ _ _ h; cases h); (focus (simp only [go_sem, hNE, ha, encP]; first | done | exact rfl)))
        | ((with_reducible apply te_callS); (focus (simp only [go_sem, hNE, ha, encP]; first | done | exact rfl)); (focus (simp only [go_sem, hNE, ha, encP]; first | done | exact rfl)); (focus (simp only [go_sem, hNE, ha, encP]; first | done | exact rfl)); (first | exact p12 | exact s1 | exact p14 c))
        | ((with_reducible apply te_gval); exact rfl; (focus (simp only [go_sem, hNE, ha, encP]; first | done | exact rfl)); exact rfl; (intro _ _ _ h; cases h); (focus (intro hG; simp only [go_sem, hNE, ha, encP, hG]; first | done | exact rfl)))
        | ((with_reducible apply te_gcallS); exact rfl; (focus (simp only [go_sem, hNE, ha, encP]; first | done | exact rfl)); (focus (simp only [go_sem, hNE, ha, encP]; first | done | exact rfl)); (focus (intro hG; simp only [go_sem, hNE, ha, encP, hG]; first | done | exact rfl)); (focus (simp only [go_sem, hNE, ha, encP]; done)); (intro hG; first | exact p12 | exact s1 | exact p14 c))
        | ((with_reducible apply te_box); (focus (simp only [go_sem, hNE, ha, encP]; first | done | exact rfl)); exact rfl; (focus (simp only [go_sem, hNE, ha, encP]; first | done | exact rfl)))
        | ((with_reducible apply t_cond); (focus (simp only [go_sem, hNE, ha, encP]; first | done | exact rfl)))
        | (with_reducible intro hc; with_reducible exact Bool.noConfusion hc)
        | (with_reducible intro hc; have hC := And.intro hC hc))
    (first | apply pend rs6 | apply pendN rs6); (focus (simp only [go_sem]; first | done | exact rfl)); (focus (simp only [go_sem]; first | done | exact rfl))
  | true =>
    cases hb : briefB c with
    | false =>
      (refine ppure_of_T ok6 (by simp only [List.length_cons, List.length_nil]; decide) ?_; refine t_seq ?_)
      (have hNE := True.intro; have hC := True.intro; repeat' first
          | with_reducible refine k_seq ?_
          | with_reducible refine t_seq ?_
          | with_reducible refine t_reg ?_
          | with_reducible refine t_nil ?_
          | with_reducible refine t_skip ?_
          | with_reducible refine t_ret ?_
          | with_reducible refine k_seq_ret ?_
          | ((with_reducible apply te_val); exact rfl; (intro _ _ _ h; cases h); (focus (simp only [go_sem, hNE, ha, hb, encP]; first | done | exact rfl)))
          | ((with_reducible apply te_callS); (focus (simp only [go_sem, hNE, ha, hb, encP]; first | done | exact rfl)); (focus (simp only [go_sem, hNE, ha, hb, encP]; first | done | exact rfl)); (focus (simp only [go_sem, hNE, ha, hb, encP]; first | done | exact rfl)); (first | exact p12 | exact s1 | exact p14 c))
          | ((with_reducible apply te_gval); exact rfl; (focus (simp only [go_sem, hNE, ha, hb, encP]; first | done | exact rfl)); exact rfl; (intro _ _ _ h; cases h); (focus (intro hG; simp only [go_sem, hNE, ha, hb, encP, hG]; first | done | exact rfl)))
          | ((with_reducible apply te_gcallS); exact rfl; (focus (simp only [go_sem, hNE, ha, hb, encP]; first | done | exact rfl)); (focus (simp only [go_sem, hNE, ha, hb, encP]; first | done | exact rfl)); (focus (intro hG; simp only [go_sem, hNE, ha, hb, encP, hG]; first | done | exact rfl)); (focus (simp only [go_sem, hNE, ha, hb, encP]; done)); (intro hG; first | exact p12 | exact s1 | exact p14 c))
          | ((with_reducible apply te_box); (focus (simp only [go_sem, hNE, ha, hb, encP]; first | done | exact rfl)); exact rfl; (focus (simp only [go_sem, hNE, ha, hb, encP]; first | done | exact rfl)))
          | ((with_reducible apply t_cond); (focus (simp only [go_sem, hNE, ha, hb, encP]; first | done | exact rfl)))
          | (with_reducible intro hc; with_reducible exact Bool.noConfusion hc)
          | (with_reducible intro hc; have hC := And.intro hC hc))
      (first | apply pend rs6 | apply pendN rs6); (focus (simp only [go_sem]; first | done | exact rfl)); (focus (simp only [go_sem]; first | done | exact rfl))
    | true =>
      have la := shortB_len ha
      have lb := briefB_len hb
      have hc1 : c.length ≤ 1000 := by omega
      have q25 := p25 p (by omega)
      have q36 := p36 p c (by omega) hc1
      have q37 := p37 p (by omega)
      have q38 := p38' p c (by omega) hc1
      simp only [encP, encLE] at q25 q36 q37 q38
      by_cases hD : orE [prcErr p, callErr c] = 0
      · obtain ⟨hi, hk⟩ : prcErr p = 0 ∧ callErr c = 0 := by
          rw [orE_two] at hD
          split at hD
          · exact ⟨by assumption, hD⟩
          · contradiction
        rw [matchOf, if_pos hD] at q36
        cases hm : matchF p c with
        | none =>
          rw [hm] at q36 q38
          (refine ppure_of_T ok6 (by simp only [List.length_cons, List.length_nil]; decide) ?_; refine t_seq ?_)
          (have hNE := True.intro; have hC := True.intro; repeat' first
              | with_reducible refine k_seq ?_
              | with_reducible refine t_seq ?_
              | with_reducible refine t_reg ?_
              | with_reducible refine t_nil ?_
              | with_reducible refine t_skip ?_
              | with_reducible refine t_ret ?_
              | with_reducible refine k_seq_ret ?_
              | ((with_reducible apply te_val); exact rfl; (intro _ _ _ h; cases h); (focus (simp only [go_sem, hNE, ha, hb, hi, hk, encP, cast0]; first | done | exact rfl)))
              | ((with_reducible apply te_callS); (focus (simp only [go_sem, hNE, ha, hb, hi, hk, encP, cast0]; first | done | exact rfl)); (focus (simp only [go_sem, hNE, ha, hb, hi, hk, encP, cast0]; first | done | exact rfl)); (focus (simp only [go_sem, hNE, ha, hb, hi, hk, encP, cast0]; first | done | exact rfl)); (first | exact p12 | exact s1 | exact p14 c | exact q25 | exact p17 c hc1 | exact q36 | exact q37 | exact p20 c hc1 | exact q38))
              | ((with_reducible apply te_gval); exact rfl; (focus (simp only [go_sem, hNE, ha, hb, hi, hk, encP, cast0]; first | done | exact rfl)); exact rfl; (intro _ _ _ h; cases h); (focus (intro hG; simp only [go_sem, hNE, ha, hb, hi, hk, encP, cast0, hG]; first | done | exact rfl)))
              | ((with_reducible apply te_gcallS); exact rfl; (focus (simp only [go_sem, hNE, ha, hb, hi, hk, encP, cast0]; first | done | exact rfl)); (focus (simp only [go_sem, hNE, ha, hb, hi, hk, encP, cast0]; first | done | exact rfl)); (focus (intro hG; simp only [go_sem, hNE, ha, hb, hi, hk, encP, cast0, hG]; first | done | exact rfl)); (focus (simp only [go_sem, hNE, ha, hb, hi, hk, encP, cast0]; done)); (intro hG; first | exact p12 | exact s1 | exact p14 c | exact q25 | exact p17 c hc1 | exact q36 | exact q37 | exact p20 c hc1 | exact q38))
              | ((with_reducible apply te_box); (focus (simp only [go_sem, hNE, ha, hb, hi, hk, encP, cast0]; first | done | exact rfl)); exact rfl; (focus (simp only [go_sem, hNE, ha, hb, hi, hk, encP, cast0]; first | done | exact rfl)))
              | ((with_reducible apply t_cond); (focus (simp only [go_sem, hNE, ha, hb, hi, hk, encP, cast0]; first | done | exact rfl)))
              | (with_reducible intro hc; with_reducible exact Bool.noConfusion hc)
              | (with_reducible intro hc; have hC := And.intro hC hc))
          (first | apply pend rs6 | apply pendN rs6); (focus (simp only [go_sem, broken]; first | done | exact rfl)); (focus (simp only [go_sem, broken]; first | done | exact rfl))
        | some w =>
          have hwl : w.length ≤ 1000 := by
            rw [matchF_len hm]; omega
          have q22 := p22 w w hwl hwl
          rw [ints_self] at q22
          rw [hm] at q36 q38
          (refine ppure_of_T ok6 (by simp only [List.length_cons, List.length_nil]; decide) ?_; refine t_seq ?_)
          (have hNE := True.intro; have hC := True.intro; repeat' first
              | with_reducible refine k_seq ?_
              | with_reducible refine t_seq ?_
              | with_reducible refine t_reg ?_
              | with_reducible refine t_nil ?_
              | with_reducible refine t_skip ?_
              | with_reducible refine t_ret ?_
              | ((with_reducible apply te_val); exact rfl; (intro _ _ _ h; cases h); (focus (simp only [go_sem, hNE, ha, hb, hi, hk, encP, cast0, clIs, nmI, nmI6]; first | done | exact rfl)))
              | ((with_reducible apply te_callS); (focus (simp only [go_sem, hNE, ha, hb, hi, hk, encP, cast0, clIs, nmI, nmI6]; first | done | exact rfl)); (focus (simp only [go_sem, hNE, ha, hb, hi, hk, encP, cast0, clIs, nmI, nmI6]; first | done | exact rfl)); (focus (simp only [go_sem, hNE, ha, hb, hi, hk, encP, cast0, clIs, nmI, nmI6]; first | done | exact rfl)); (first | exact p12 | exact s1 | exact p14 c | exact q25 | exact p17 c hc1 | exact q36 | exact q37 | exact p20 c hc1 | exact q38 | exact q22))
              | ((with_reducible apply te_gval); exact rfl; (focus (simp only [go_sem, hNE, ha, hb, hi, hk, encP, cast0, clIs, nmI, nmI6]; first | done | exact rfl)); exact rfl; (intro _ _ _ h; cases h); (focus (intro hG; simp only [go_sem, hNE, ha, hb, hi, hk, encP, cast0, clIs, nmI, nmI6, hG]; first | done | exact rfl)))
              | ((with_reducible apply te_gcallS); exact rfl; (focus (simp only [go_sem, hNE, ha, hb, hi, hk, encP, cast0, clIs, nmI, nmI6]; first | done | exact rfl)); (focus (simp only [go_sem, hNE, ha, hb, hi, hk, encP, cast0, clIs, nmI, nmI6]; first | done | exact rfl)); (focus (intro hG; simp only [go_sem, hNE, ha, hb, hi, hk, encP, cast0, clIs, nmI, nmI6, hG]; first | done | exact rfl)); (focus (simp only [go_sem, hNE, ha, hb, hi, hk, encP, cast0, clIs, nmI, nmI6]; done)); (intro hG; first | exact p12 | exact s1 | exact p14 c | exact q25 | exact p17 c hc1 | exact q36 | exact q37 | exact p20 c hc1 | exact q38 | exact q22))
              | ((with_reducible apply te_box); (focus (simp only [go_sem, hNE, ha, hb, hi, hk, encP, cast0, clIs, nmI, nmI6]; first | done | exact rfl)); exact rfl; (focus (simp only [go_sem, hNE, ha, hb, hi, hk, encP, cast0, clIs, nmI, nmI6]; first | done | exact rfl)))
              | ((with_reducible apply t_cond); (focus (simp only [go_sem, hNE, ha, hb, hi, hk, encP, cast0, clIs, nmI, nmI6]; first | done | exact rfl)))
              | (with_reducible intro hc; with_reducible exact Bool.noConfusion hc)
              | (with_reducible intro hc; have hC := And.intro hC hc))
          (first | apply pend rs6 | apply pendN rs6); (focus (simp only [go_sem, broken]; first | done | exact rfl)); (focus (simp only [go_sem, broken]; first | done | exact rfl))
      · rw [matchOf, if_neg hD] at q36
        by_cases hi : prcErr p = 0
        · have hD2 : orE [prcErr p, callErr c] = callErr c := by rw [orE_two, if_pos hi]
          rw [hD2] at q36 hD
          (refine ppure_of_T ok6 (by simp only [List.length_cons, List.length_nil]; decide) ?_; refine t_seq ?_)
          (have hNE := True.intro; have hC := True.intro; repeat' first
              | with_reducible refine k_seq ?_
              | with_reducible refine t_seq ?_
              | with_reducible refine t_reg ?_
              | with_reducible refine t_nil ?_
              | with_reducible refine t_skip ?_
              | with_reducible refine t_ret ?_
              | with_reducible refine k_seq_ret ?_
              | ((with_reducible apply te_val); exact rfl; (intro _ _ _ h; cases h); (focus (simp only [go_sem, hNE, ha, hb, hi, hD, encP, cast0]; first | done | exact rfl)))
              | ((with_reducible apply te_callS); (focus (simp only [go_sem, hNE, ha, hb, hi, hD, encP, cast0]; first | done | exact rfl)); (focus (simp only [go_sem, hNE, ha, hb, hi, hD, encP, cast0]; first | done | exact rfl)); (focus (simp only [go_sem, hNE, ha, hb, hi, hD, encP, cast0]; first | done | exact rfl)); (first | exact p12 | exact s1 | exact p14 c | exact q25 | exact p17 c hc1 | exact q36 | exact q37 | exact p20 c hc1 | exact q38))
              | ((with_reducible apply te_gval); exact rfl; (focus (simp only [go_sem, hNE, ha, hb, hi, hD, encP, cast0]; first | done | exact rfl)); exact rfl; (intro _ _ _ h; cases h); (focus (intro hG; simp only [go_sem, hNE, ha, hb, hi, hD, encP, cast0, hG]; first | done | exact rfl)))
              | ((with_reducible apply te_gcallS); exact rfl; (focus (simp only [go_sem, hNE, ha, hb, hi, hD, encP, cast0]; first | done | exact rfl)); (focus (simp only [go_sem, hNE, ha, hb, hi, hD, encP, cast0]; first | done | exact rfl)); (focus (intro hG; simp only [go_sem, hNE, ha, hb, hi, hD, encP, cast0, hG]; first | done | exact rfl)); (focus (simp only [go_sem, hNE, ha, hb, hi, hD, encP, cast0]; done)); (intro hG; first | exact p12 | exact s1 | exact p14 c | exact q25 | exact p17 c hc1 | exact q36 | exact q37 | exact p20 c hc1 | exact q38))
              | ((with_reducible apply te_box); (focus (simp only [go_sem, hNE, ha, hb, hi, hD, encP, cast0]; first | done | exact rfl)); exact rfl; (focus (simp only [go_sem, hNE, ha, hb, hi, hD, encP, cast0]; first | done | exact rfl)))
              | ((with_reducible apply t_cond); (focus (simp only [go_sem, hNE, ha, hb, hi, hD, encP, cast0]; first | done | exact rfl)))
              | (with_reducible intro hc; with_reducible exact Bool.noConfusion hc)
              | (with_reducible intro hc; have hC := And.intro hC hc))
          (first | apply pend rs6 | apply pendN rs6); (focus (simp only [go_sem]; first | done | exact rfl)); (focus (simp only [go_sem]; first | done | exact rfl))
        · have hD2 : orE [prcErr p, callErr c] = prcErr p := by rw [orE_two, if_neg hi]
          rw [hD2] at q36
          (refine ppure_of_T ok6 (by simp only [List.length_cons, List.length_nil]; decide) ?_; refine t_seq ?_)
          (have hNE := True.intro; have hC := True.intro; repeat' first
              | with_reducible refine k_seq ?_
              | with_reducible refine t_seq ?_
              | with_reducible refine t_reg ?_
              | with_reducible refine t_nil ?_
              | with_reducible refine t_skip ?_
              | with_reducible refine t_ret ?_
              | with_reducible refine k_seq_ret ?_
              | ((with_reducible apply te_val); exact rfl; (intro _ _ _ h; cases h); (focus (simp only [go_sem, hNE, ha, hb, hi, encP, cast0]; first | done | exact rfl)))
              | ((with_reducible apply te_callS); (focus (simp only [go_sem, hNE, ha, hb, hi, encP, cast0]; first | done | exact rfl)); (focus (simp only [go_sem, hNE, ha, hb, hi, encP, cast0]; first | done | exact rfl)); (focus (simp only [go_sem, hNE, ha, hb, hi, encP, cast0]; first | done | exact rfl)); (first | exact p12 | exact s1 | exact p14 c | exact q25 | exact p17 c hc1 | exact q36 | exact q37 | exact p20 c hc1 | exact q38))
              | ((with_reducible apply te_gval); exact rfl; (focus (simp only [go_sem, hNE, ha, hb, hi, encP, cast0]; first | done | exact rfl)); exact rfl; (intro _ _ _ h; cases h); (focus (intro hG; simp only [go_sem, hNE, ha, hb, hi, encP, cast0, hG]; first | done | exact rfl)))
              | ((with_reducible apply te_gcallS); exact rfl; (focus (simp only [go_sem, hNE, ha, hb, hi, encP, cast0]; first | done | exact rfl)); (focus (simp only [go_sem, hNE, ha, hb, hi, encP, cast0]; first | done | exact rfl)); (focus (intro hG; simp only [go_sem, hNE, ha, hb, hi, encP, cast0, hG]; first | done | exact rfl)); (focus (simp only [go_sem, hNE, ha, hb, hi, encP, cast0]; done)); (intro hG; first | exact p12 | exact s1 | exact p14 c | exact q25 | exact p17 c hc1 | exact q36 | exact q37 | exact p20 c hc1 | exact q38))
              | ((with_reducible apply te_box); (focus (simp only [go_sem, hNE, ha, hb, hi, encP, cast0]; first | done | exact rfl)); exact rfl; (focus (simp only [go_sem, hNE, ha, hb, hi, encP, cast0]; first | done | exact rfl)))
              | ((with_reducible apply t_cond); (focus (simp only [go_sem, hNE, ha, hb, hi, encP, cast0]; first | done | exact rfl)))
              | (with_reducible intro hc; with_reducible exact Bool.noConfusion hc)
              | (with_reducible intro hc; have hC := And.intro hC hc))
          (first | apply pend rs6 | apply pendN rs6); (focus (simp only [go_sem]; first | done | exact rfl)); (focus (simp only [go_sem]; first | done | exact rfl))

/-! The rules of both texts. -/
theorem prcErr_len {p : Prc} (h : prcErr p = 0) : p.ds.length ≤ 8 := by
  unfold prcErr at h
  split at h
  · rename_i h1
    cases hb : decide ((p.ds.length : Int) ≤ 8) with
    | true => simp at hb; omega
    | false =>
      simp only [broken, hb, Bool.false_eq_true, if_false] at h1
      split at h1 <;> omega
  · contradiction
theorem bothErr_zero {a b : Prc} (h : bothErr a b = 0) : prcErr a = 0 ∧ prcErr b = 0 := by
  unfold bothErr at h
  rw [orE_two] at h
  split at h
  · exact ⟨by assumption, h⟩
  · contradiction
theorem bothErr_of {a b : Prc} (ha : prcErr a = 0) (hb : prcErr b = 0) : bothErr a b = 0 := by
  unfold bothErr; rw [orE_two, if_pos ha, hb]
theorem rules_same' {a b : Prc} (h : bothErr a b = 0) : refDist a b = distF a b := rules_same h (prcErr_len (bothErr_zero h).1) (prcErr_len (bothErr_zero h).2)
set_option maxHeartbeats 2000000 in
theorem law8 (a b : Prc) (x1 x2 x3 x4 : Int) : PPure Try.prog 8 [encP a, encP b, .agg [.int .i64 x1, .int .i64 x2, .int .i64 x3, .int .i64 x4]] (.bool true) := by
  simp only [encP]
  have s1 := p23 a
  have s2 := p23 b
  simp only [encP] at s1 s2
  cases ha : shortB a with
  | false =>
    (refine ppure_of_T ok8 (by simp only [List.length_cons, List.length_nil]; decide) ?_; refine t_seq ?_)
    (have hNE := True.intro; have hC := True.intro; repeat' first
        | with_reducible refine k_seq ?_
        | with_reducible refine t_seq ?_
        | with_reducible refine t_reg ?_
        | with_reducible refine t_nil ?_
        | with_reducible refine t_skip ?_
        | with_reducible refine t_ret ?_
        | with_reducible refine k_seq_ret ?_
        | ((with_reducible apply te_val); exact rfl; (intro _ _ _ h; cases h); (focus (simp only [go_sem, hNE, ha, encP]; first | done | exact rfl)))
        | ((with_reducible apply te_callS); (focus (simp only [go_sem, hNE, ha, encP]; first | done | exact rfl)); (focus (simp only [go_sem, hNE, ha, encP]; first | done | exact rfl)); (focus (simp only [go_sem, hNE, ha, encP]; first | done | exact rfl)); (first | exact p12 | exact s1 | exact s2))
        | ((with_reducible apply te_gval); exact rfl; (focus (simp only [go_sem, hNE, ha, encP]; first | done | exact rfl)); exact rfl; (intro _ _ _ h; cases h); (focus (intro hG; simp only [go_sem, hNE, ha, encP, hG]; first | done | exact rfl)))
        | ((with_reducible apply te_gno); exact rfl; (focus (simp only [go_sem, hNE, ha, encP]; first | done | exact rfl)); exact rfl)
        | ((with_reducible apply te_box); (focus (simp only [go_sem, hNE, ha, encP]; first | done | exact rfl)); exact rfl; (focus (simp only [go_sem, hNE, ha, encP]; first | done | exact rfl)))
        | ((with_reducible apply t_cond); (focus (simp only [go_sem, hNE, ha, encP]; first | done | exact rfl)))
        | (with_reducible intro hc; with_reducible exact Bool.noConfusion hc)
        | (with_reducible intro hc; have hC := And.intro hC hc))
    (first | apply pend rs8 | apply pendN rs8); (focus (simp only [go_sem]; first | done | exact rfl)); (focus (simp only [go_sem]; first | done | exact rfl))
  | true =>
    cases hb : shortB b with
    | false =>
      (refine ppure_of_T ok8 (by simp only [List.length_cons, List.length_nil]; decide) ?_; refine t_seq ?_)
      (have hNE := True.intro; have hC := True.intro; repeat' first
          | with_reducible refine k_seq ?_
          | with_reducible refine t_seq ?_
          | with_reducible refine t_reg ?_
          | with_reducible refine t_nil ?_
          | with_reducible refine t_skip ?_
          | with_reducible refine t_ret ?_
          | with_reducible refine k_seq_ret ?_
          | ((with_reducible apply te_val); exact rfl; (intro _ _ _ h; cases h); (focus (simp only [go_sem, hNE, ha, hb, encP]; first | done | exact rfl)))
          | ((with_reducible apply te_callS); (focus (simp only [go_sem, hNE, ha, hb, encP]; first | done | exact rfl)); (focus (simp only [go_sem, hNE, ha, hb, encP]; first | done | exact rfl)); (focus (simp only [go_sem, hNE, ha, hb, encP]; first | done | exact rfl)); (first | exact p12 | exact s1 | exact s2))
          | ((with_reducible apply te_gval); exact rfl; (focus (simp only [go_sem, hNE, ha, hb, encP]; first | done | exact rfl)); exact rfl; (intro _ _ _ h; cases h); (focus (intro hG; simp only [go_sem, hNE, ha, hb, encP, hG]; first | done | exact rfl)))
          | ((with_reducible apply te_gcallS); exact rfl; (focus (simp only [go_sem, hNE, ha, hb, encP]; first | done | exact rfl)); (focus (simp only [go_sem, hNE, ha, hb, encP]; first | done | exact rfl)); (focus (intro hG; simp only [go_sem, hNE, ha, hb, encP, hG]; first | done | exact rfl)); (focus (simp only [go_sem, hNE, ha, hb, encP]; done)); (intro hG; first | exact p12 | exact s1 | exact s2))
          | ((with_reducible apply te_box); (focus (simp only [go_sem, hNE, ha, hb, encP]; first | done | exact rfl)); exact rfl; (focus (simp only [go_sem, hNE, ha, hb, encP]; first | done | exact rfl)))
          | ((with_reducible apply t_cond); (focus (simp only [go_sem, hNE, ha, hb, encP]; first | done | exact rfl)))
          | (with_reducible intro hc; with_reducible exact Bool.noConfusion hc)
          | (with_reducible intro hc; have hC := And.intro hC hc))
      (first | apply pend rs8 | apply pendN rs8); (focus (simp only [go_sem]; first | done | exact rfl)); (focus (simp only [go_sem]; first | done | exact rfl))
    | true =>
      have la := shortB_len ha
      have lb := shortB_len hb
      have q25a := p25 a (by omega)
      have q25b := p25 b (by omega)
      have q39 := p39 a b ⟨x1, x2, x3, x4⟩ (by omega) (by omega)
      have q40 := p40 a b (by omega) (by omega)
      have q41 := p41 a b ⟨x1, x2, x3, x4⟩ (by omega) (by omega)
      have q42 := p42 a b (by omega) (by omega)
      have q26 := p26 a b (by omega) (by omega)
      simp only [encP, encS] at q25a q25b q39 q40 q41 q42 q26
      by_cases hD : bothErr a b = 0
      · rw [distOf, if_pos hD] at q40
        rw [rules_same' hD] at q42
        cases hd : distF a b with
        | none =>
          rw [hd] at q40 q42
          (refine ppure_of_T ok8 (by simp only [List.length_cons, List.length_nil]; decide) ?_; refine t_seq ?_)
          (have hNE := True.intro; have hC := True.intro; repeat' first
              | ((with_reducible apply te_drwA); (focus (simp only [effFlA, List.map_cons, List.map_nil]; exact rfl)); (focus decide +kernel))
              | with_reducible refine k_seq ?_
              | with_reducible refine t_seq ?_
              | with_reducible refine t_reg ?_
              | with_reducible refine t_nil ?_
              | with_reducible refine t_skip ?_
              | with_reducible refine t_ret ?_
              | with_reducible refine k_seq_ret ?_
              | with_reducible refine m_nil ?_
              | ((with_reducible apply te_val); exact rfl; (intro _ _ _ h; cases h); (focus (simp only [go_sem, hNE, ha, hb, hD, encP, dst0]; first | done | exact rfl)))
              | ((with_reducible apply te_callS); (focus (simp only [go_sem, hNE, ha, hb, hD, encP, dst0]; first | done | exact rfl)); (focus (simp only [go_sem, hNE, ha, hb, hD, encP, dst0]; first | done | exact rfl)); (focus (simp only [go_sem, hNE, ha, hb, hD, encP, dst0]; first | done | exact rfl)); (first | exact p12 | exact s1 | exact s2 | exact q25a | exact q25b | exact q39 | exact q40 | exact q41 | exact q42 | exact q26))
              | ((with_reducible apply te_gval); exact rfl; (focus (simp only [go_sem, hNE, ha, hb, hD, encP, dst0]; first | done | exact rfl)); exact rfl; (intro _ _ _ h; cases h); (focus (intro hG; simp only [go_sem, hNE, ha, hb, hD, encP, dst0, hG]; first | done | exact rfl)))
              | ((with_reducible apply te_gcallS); exact rfl; (focus (simp only [go_sem, hNE, ha, hb, hD, encP, dst0]; first | done | exact rfl)); (focus (simp only [go_sem, hNE, ha, hb, hD, encP, dst0]; first | done | exact rfl)); (focus (intro hG; simp only [go_sem, hNE, ha, hb, hD, encP, dst0, hG]; first | done | exact rfl)); (focus (simp only [go_sem, hNE, ha, hb, hD, encP, dst0]; done)); (intro hG; first | exact p12 | exact s1 | exact s2 | exact q25a | exact q25b | exact q39 | exact q40 | exact q41 | exact q42 | exact q26))
              | ((with_reducible apply me_val); exact rfl; (intro _ _ _ h; cases h); (focus (simp only [go_sem, hNE, ha, hb, hD, encP, dst0]; first | done | exact rfl)))
              | ((with_reducible apply me_callS); (focus (simp only [go_sem, hNE, ha, hb, hD, encP, dst0]; first | done | exact rfl)); (focus (simp only [go_sem, hNE, ha, hb, hD, encP, dst0]; first | done | exact rfl)); (focus (simp only [go_sem, hNE, ha, hb, hD, encP, dst0]; first | done | exact rfl)); (first | exact p12 | exact s1 | exact s2 | exact q25a | exact q25b | exact q39 | exact q40 | exact q41 | exact q42 | exact q26))
              | ((with_reducible apply te_box); (focus (simp only [go_sem, hNE, ha, hb, hD, encP, dst0]; first | done | exact rfl)); exact rfl; (focus (simp only [go_sem, hNE, ha, hb, hD, encP, dst0]; first | done | exact rfl)))
              | ((with_reducible apply te_alloc); (focus (simp only [go_sem, hNE, ha, hb, hD, encP, dst0]; first | done | exact rfl)); exact rfl; exact rfl; (intro la ha hn1; have hNE := And.intro hNE hn1))
              | ((with_reducible apply me_alloc); (focus (simp only [go_sem, hNE, ha, hb, hD, encP, dst0]; first | done | exact rfl)); exact rfl; exact rfl; (intro la ha hn1; have hNE := And.intro hNE hn1))
              | ((with_reducible apply te_store); (focus (simp only [go_sem, hNE, ha, hb, hD, encP, dst0]; first | done | exact rfl)); (focus (simp only [go_sem, hNE, ha, hb, hD, encP, dst0]; first | done | exact rfl)); (focus (simp only [go_sem, hNE, ha, hb, hD, encP, dst0]; first | done | exact rfl)); (focus (simp only [go_sem, hNE, ha, hb, hD, encP, dst0]; first | done | exact rfl)); (focus (simp only [go_sem, hNE, ha, hb, hD, encP, dst0]; first | done | exact rfl)); (focus (simp only [go_sem, hNE, ha, hb, hD, encP, dst0]; first | done | exact rfl)))
              | ((with_reducible apply me_store); (focus (simp only [go_sem, hNE, ha, hb, hD, encP, dst0]; first | done | exact rfl)); (focus (simp only [go_sem, hNE, ha, hb, hD, encP, dst0]; first | done | exact rfl)); (focus (simp only [go_sem, hNE, ha, hb, hD, encP, dst0]; first | done | exact rfl)); (focus (simp only [go_sem, hNE, ha, hb, hD, encP, dst0]; first | done | exact rfl)); (focus (simp only [go_sem, hNE, ha, hb, hD, encP, dst0]; first | done | exact rfl)); (focus (simp only [go_sem, hNE, ha, hb, hD, encP, dst0]; first | done | exact rfl)))
              | ((with_reducible apply t_cond); (focus (simp only [go_sem, hNE, ha, hb, hD, encP, dst0]; first | done | exact rfl)))
              | (with_reducible intro hc; with_reducible exact Bool.noConfusion hc)
              | (with_reducible intro hc; have hC := And.intro hC hc))
          (first | apply pend rs8 | apply pendN rs8); (focus (simp only [go_sem, broken]; first | done | exact rfl)); (focus (simp only [go_sem, broken]; first | done | exact rfl))
        | some y =>
          rw [hd] at q40 q42
          (refine ppure_of_T ok8 (by simp only [List.length_cons, List.length_nil]; decide) ?_; refine t_seq ?_)
          (have hNE := True.intro; have hC := True.intro; repeat' first
              | ((with_reducible apply te_drwA); (focus (simp only [effFlA, List.map_cons, List.map_nil]; exact rfl)); (focus decide +kernel))
              | with_reducible refine k_seq ?_
              | with_reducible refine t_seq ?_
              | with_reducible refine t_reg ?_
              | with_reducible refine t_nil ?_
              | with_reducible refine t_skip ?_
              | with_reducible refine t_ret ?_
              | with_reducible refine m_nil ?_
              | ((with_reducible apply te_val); exact rfl; (intro _ _ _ h; cases h); (focus (simp only [go_sem, hNE, ha, hb, hD, encP]; first | done | exact rfl)))
              | ((with_reducible apply te_callS); (focus (simp only [go_sem, hNE, ha, hb, hD, encP]; first | done | exact rfl)); (focus (simp only [go_sem, hNE, ha, hb, hD, encP]; first | done | exact rfl)); (focus (simp only [go_sem, hNE, ha, hb, hD, encP]; first | done | exact rfl)); (first | exact p12 | exact s1 | exact s2 | exact q25a | exact q25b | exact q39 | exact q40 | exact q41 | exact q42 | exact q26))
              | ((with_reducible apply te_gval); exact rfl; (focus (simp only [go_sem, hNE, ha, hb, hD, encP]; first | done | exact rfl)); exact rfl; (intro _ _ _ h; cases h); (focus (intro hG; simp only [go_sem, hNE, ha, hb, hD, encP, hG]; first | done | exact rfl)))
              | ((with_reducible apply te_gcallS); exact rfl; (focus (simp only [go_sem, hNE, ha, hb, hD, encP]; first | done | exact rfl)); (focus (simp only [go_sem, hNE, ha, hb, hD, encP]; first | done | exact rfl)); (focus (intro hG; simp only [go_sem, hNE, ha, hb, hD, encP, hG]; first | done | exact rfl)); (focus (simp only [go_sem, hNE, ha, hb, hD, encP]; done)); (intro hG; first | exact p12 | exact s1 | exact s2 | exact q25a | exact q25b | exact q39 | exact q40 | exact q41 | exact q42 | exact q26))
              | ((with_reducible apply me_val); exact rfl; (intro _ _ _ h; cases h); (focus (simp only [go_sem, hNE, ha, hb, hD, encP]; first | done | exact rfl)))
              | ((with_reducible apply me_callS); (focus (simp only [go_sem, hNE, ha, hb, hD, encP]; first | done | exact rfl)); (focus (simp only [go_sem, hNE, ha, hb, hD, encP]; first | done | exact rfl)); (focus (simp only [go_sem, hNE, ha, hb, hD, encP]; first | done | exact rfl)); (first | exact p12 | exact s1 | exact s2 | exact q25a | exact q25b | exact q39 | exact q40 | exact q41 | exact q42 | exact q26))
              | ((with_reducible apply te_box); (focus (simp only [go_sem, hNE, ha, hb, hD, encP]; first | done | exact rfl)); exact rfl; (focus (simp only [go_sem, hNE, ha, hb, hD, encP]; first | done | exact rfl)))
              | ((with_reducible apply te_alloc); (focus (simp only [go_sem, hNE, ha, hb, hD, encP]; first | done | exact rfl)); exact rfl; exact rfl; (intro la ha hn1; have hNE := And.intro hNE hn1))
              | ((with_reducible apply me_alloc); (focus (simp only [go_sem, hNE, ha, hb, hD, encP]; first | done | exact rfl)); exact rfl; exact rfl; (intro la ha hn1; have hNE := And.intro hNE hn1))
              | ((with_reducible apply te_store); (focus (simp only [go_sem, hNE, ha, hb, hD, encP]; first | done | exact rfl)); (focus (simp only [go_sem, hNE, ha, hb, hD, encP]; first | done | exact rfl)); (focus (simp only [go_sem, hNE, ha, hb, hD, encP]; first | done | exact rfl)); (focus (simp only [go_sem, hNE, ha, hb, hD, encP]; first | done | exact rfl)); (focus (simp only [go_sem, hNE, ha, hb, hD, encP]; first | done | exact rfl)); (focus (simp only [go_sem, hNE, ha, hb, hD, encP]; first | done | exact rfl)))
              | ((with_reducible apply me_store); (focus (simp only [go_sem, hNE, ha, hb, hD, encP]; first | done | exact rfl)); (focus (simp only [go_sem, hNE, ha, hb, hD, encP]; first | done | exact rfl)); (focus (simp only [go_sem, hNE, ha, hb, hD, encP]; first | done | exact rfl)); (focus (simp only [go_sem, hNE, ha, hb, hD, encP]; first | done | exact rfl)); (focus (simp only [go_sem, hNE, ha, hb, hD, encP]; first | done | exact rfl)); (focus (simp only [go_sem, hNE, ha, hb, hD, encP]; first | done | exact rfl)))
              | ((with_reducible apply t_cond); (focus (simp only [go_sem, hNE, ha, hb, hD, encP]; first | done | exact rfl)))
              | (with_reducible intro hc; with_reducible exact Bool.noConfusion hc)
              | (with_reducible intro hc; have hC := And.intro hC hc))
          (first | apply pend rs8 | apply pendN rs8); (focus (simp only [go_sem, broken]; first | done | exact rfl)); (focus (simp only [go_sem, broken]; first | done | exact rfl))
      · rw [distOf, if_neg hD] at q40
        (refine ppure_of_T ok8 (by simp only [List.length_cons, List.length_nil]; decide) ?_; refine t_seq ?_)
        (have hNE := True.intro; have hC := True.intro; repeat' first
            | ((with_reducible apply te_drwA); (focus (simp only [effFlA, List.map_cons, List.map_nil]; exact rfl)); (focus decide +kernel))
            | with_reducible refine k_seq ?_
            | with_reducible refine t_seq ?_
            | with_reducible refine t_reg ?_
            | with_reducible refine t_nil ?_
            | with_reducible refine t_skip ?_
            | with_reducible refine t_ret ?_
            | with_reducible refine k_seq_ret ?_
            | with_reducible refine m_nil ?_
            | ((with_reducible apply te_val); exact rfl; (intro _ _ _ h; cases h); (focus (simp only [go_sem, hNE, ha, hb, hD, encP, dst0]; first | done | exact rfl)))
            | ((with_reducible apply te_callS); (focus (simp only [go_sem, hNE, ha, hb, hD, encP, dst0]; first | done | exact rfl)); (focus (simp only [go_sem, hNE, ha, hb, hD, encP, dst0]; first | done | exact rfl)); (focus (simp only [go_sem, hNE, ha, hb, hD, encP, dst0]; first | done | exact rfl)); (first | exact p12 | exact s1 | exact s2 | exact q25a | exact q25b | exact q39 | exact q40 | exact q41 | exact q26))
            | ((with_reducible apply te_gval); exact rfl; (focus (simp only [go_sem, hNE, ha, hb, hD, encP, dst0]; first | done | exact rfl)); exact rfl; (intro _ _ _ h; cases h); (focus (intro hG; simp only [go_sem, hNE, ha, hb, hD, encP, dst0, hG]; first | done | exact rfl)))
            | ((with_reducible apply te_gcallS); exact rfl; (focus (simp only [go_sem, hNE, ha, hb, hD, encP, dst0]; first | done | exact rfl)); (focus (simp only [go_sem, hNE, ha, hb, hD, encP, dst0]; first | done | exact rfl)); (focus (intro hG; simp only [go_sem, hNE, ha, hb, hD, encP, dst0, hG]; first | done | exact rfl)); (focus (simp only [go_sem, hNE, ha, hb, hD, encP, dst0]; done)); (intro hG; first | exact p12 | exact s1 | exact s2 | exact q25a | exact q25b | exact q39 | exact q40 | exact q41 | exact q26))
            | ((with_reducible apply me_val); exact rfl; (intro _ _ _ h; cases h); (focus (simp only [go_sem, hNE, ha, hb, hD, encP, dst0]; first | done | exact rfl)))
            | ((with_reducible apply me_callS); (focus (simp only [go_sem, hNE, ha, hb, hD, encP, dst0]; first | done | exact rfl)); (focus (simp only [go_sem, hNE, ha, hb, hD, encP, dst0]; first | done | exact rfl)); (focus (simp only [go_sem, hNE, ha, hb, hD, encP, dst0]; first | done | exact rfl)); (first | exact p12 | exact s1 | exact s2 | exact q25a | exact q25b | exact q39 | exact q40 | exact q41 | exact q26))
            | ((with_reducible apply te_box); (focus (simp only [go_sem, hNE, ha, hb, hD, encP, dst0]; first | done | exact rfl)); exact rfl; (focus (simp only [go_sem, hNE, ha, hb, hD, encP, dst0]; first | done | exact rfl)))
            | ((with_reducible apply me_alloc); (focus (simp only [go_sem, hNE, ha, hb, hD, encP, dst0]; first | done | exact rfl)); exact rfl; exact rfl; (intro la ha hn1; have hNE := And.intro hNE hn1))
            | ((with_reducible apply me_store); (focus (simp only [go_sem, hNE, ha, hb, hD, encP, dst0]; first | done | exact rfl)); (focus (simp only [go_sem, hNE, ha, hb, hD, encP, dst0]; first | done | exact rfl)); (focus (simp only [go_sem, hNE, ha, hb, hD, encP, dst0]; first | done | exact rfl)); (focus (simp only [go_sem, hNE, ha, hb, hD, encP, dst0]; first | done | exact rfl)); (focus (simp only [go_sem, hNE, ha, hb, hD, encP, dst0]; first | done | exact rfl)); (focus (simp only [go_sem, hNE, ha, hb, hD, encP, dst0]; first | done | exact rfl)))
            | ((with_reducible apply t_cond); (focus (simp only [go_sem, hNE, ha, hb, hD, encP, dst0]; first | done | exact rfl)))
            | (with_reducible intro hc; with_reducible exact Bool.noConfusion hc)
            | (with_reducible intro hc; have hC := And.intro hC hc))
        (first | apply pend rs8 | apply pendN rs8); (focus (simp only [go_sem]; first | done | exact rfl)); (focus (simp only [go_sem]; first | done | exact rfl))

/-! Pairs. -/
theorem firstBad_all {α : Type} {g : Nat → α → Int} : ∀ (l : List α) (i : Nat), (firstBad g l i).2 = 0 → ∀ x ∈ l, ∃ j, g j x = 0
  | x :: r, i, h, y, hy => by
    rw [firstBad] at h
    split at h
    · rename_i h0
      rcases List.mem_cons.1 hy with rfl | hy
      · exact ⟨i, h0⟩
      · exact firstBad_all r (i + 1) h y hy
    · contradiction
theorem itfErr_all {l : List Prc} (h : itfErr l = 0) : ∀ p ∈ l, prcErr p = 0 := by
  intro p hp
  unfold itfErr itfBad at h
  split at h
  · simp at h
  · obtain ⟨j, hj⟩ := firstBad_all l 0 h p hp
    unfold prcBad at hj
    rw [orE_two] at hj
    split at hj
    · assumption
    · contradiction
theorem pairF_congr {g g' : Prc → Prc → Bool} {l : List Prc} (h : ∀ a b, a ∈ l → b ∈ l → g a b = g' a b) : pairF g l = pairF g' l := by
  refine srch_congr _ _ fun i _ _ => ?_
  unfold pairR
  cases ha : l[i]? with
  | none => rfl
  | some a =>
    refine srch_congr _ _ fun k _ _ => ?_
    unfold pairK
    cases hb : l[i + 1 + k]? with
    | none => rfl
    | some b =>
      have := h a b (List.mem_of_getElem? ha) (List.mem_of_getElem? hb)
      simp only [this]
end Go.Proofs.Ytloecggdboingaa
