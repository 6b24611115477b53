/- Chapter 18: GenericResolves. -/
import Derived.Test.YtloecggdboingaaCF
import Derived.Test.YtloecggdboingaaRows
namespace Go.Proofs.Ytloecggdboingaa
open Go.RowKit Go.Proofs
set_option linter.unusedVariables false
set_option linter.unusedSimpArgs false
attribute [local irreducible] PPure

theorem shortB_len {p : Prc} (h : shortB p = true) : p.ds.length ≤ 10 := by
  simp only [shortB, longB, Bool.and_eq_true, Bool.not_eq_true', decide_eq_false_iff_not] at h
  omega
theorem fewB_tiny {l : List Prc} (h : fewB l = true) : Tiny l ∧ l.length ≤ 10 := by
  simp only [fewB, longB, fewAll, Bool.and_eq_true, Bool.not_eq_true', decide_eq_false_iff_not, List.all_eq_true] at h
  exact ⟨⟨by omega, fun p hp => Nat.le_trans (shortB_len (h.2 p hp)) (by decide)⟩, by omega⟩
theorem briefB_len {c : List Act} (h : briefB c = true) : c.length ≤ 10 := by
  simp only [briefB, longB, Bool.and_eq_true, Bool.not_eq_true', decide_eq_false_iff_not] at h
  omega
theorem orE_two (a b : Int) : orE [a, b] = if a = 0 then b else a := by
  simp only [orE]; split <;> simp_all
theorem cast1 : ((1 : Nat) : Int) = 1 := rfl
attribute [go_sem] cast1
theorem ints_self (w : List Int) : intsB w w = true := (intsB_iff w w).2 rfl
set_option maxHeartbeats 2000000 in
theorem law3 (l : List Prc) (c : List Act) : PPure Try.prog 3 [.list .any (l.map encP), .list .any (c.map encA)] (.bool true) := by
  cases hf : fewB l with
  | false =>
    (refine ppure_of_T ok3 (by simp only [List.length_cons, List.length_nil]; decide) ?_; refine t_seq ?_)
    (have hNE := True.intro; have hC := True.intro; repeat' first
        | with_reducible refine k_seq ?_
        | with_reducible refine t_seq ?_
        | with_reducible refine t_reg ?_
        | with_reducible refine t_nil ?_
        | with_reducible refine t_skip ?_
        | with_reducible refine t_ret ?_
        | with_reducible refine k_seq_ret ?_
        | ((with_reducible apply te_val); exact rfl; (intro _ _ _ h; cases h); (focus (simp only [go_sem, hNE, hf]; first | done | exact rfl)))
        | ((with_reducible apply te_callS); (focus (simp only [go_sem, hNE, hf]; first | done | exact rfl)); (focus (simp only [go_sem, hNE, hf]; first | done | exact rfl)); (focus (simp only [go_sem, hNE, hf]; first | done | exact rfl)); (first | exact p12 | exact p13 l | exact p14 c))
        | ((with_reducible apply te_gval); exact rfl; (focus (simp only [go_sem, hNE, hf]; first | done | exact rfl)); exact rfl; (intro _ _ _ h; cases h); (focus (intro hG; simp only [go_sem, hNE, hf, hG]; first | done | exact rfl)))
        | ((with_reducible apply te_gcallS); exact rfl; (focus (simp only [go_sem, hNE, hf]; first | done | exact rfl)); (focus (simp only [go_sem, hNE, hf]; first | done | exact rfl)); (focus (intro hG; simp only [go_sem, hNE, hf, hG]; first | done | exact rfl)); (focus (simp only [go_sem, hNE, hf]; done)); (intro hG; first | exact p12 | exact p13 l | exact p14 c))
        | ((with_reducible apply t_cond); (focus (simp only [go_sem, hNE, hf]; first | done | exact rfl)))
        | (with_reducible intro hc; with_reducible exact Bool.noConfusion hc)
        | (with_reducible intro hc; have hC := And.intro hC hc))
    (first | apply pend rs3 | apply pendN rs3); (focus (simp only [go_sem]; first | done | exact rfl)); (focus (simp only [go_sem]; first | done | exact rfl))
  | true =>
    cases hb : briefB c with
    | false =>
      (refine ppure_of_T ok3 (by simp only [List.length_cons, List.length_nil]; decide) ?_; refine t_seq ?_)
      (have hNE := True.intro; have hC := True.intro; repeat' first
          | with_reducible refine k_seq ?_
          | with_reducible refine t_seq ?_
          | with_reducible refine t_reg ?_
          | with_reducible refine t_nil ?_
          | with_reducible refine t_skip ?_
          | with_reducible refine t_ret ?_
          | with_reducible refine k_seq_ret ?_
          | ((with_reducible apply te_val); exact rfl; (intro _ _ _ h; cases h); (focus (simp only [go_sem, hNE, hf, hb]; first | done | exact rfl)))
          | ((with_reducible apply te_callS); (focus (simp only [go_sem, hNE, hf, hb]; first | done | exact rfl)); (focus (simp only [go_sem, hNE, hf, hb]; first | done | exact rfl)); (focus (simp only [go_sem, hNE, hf, hb]; first | done | exact rfl)); (first | exact p12 | exact p13 l | exact p14 c))
          | ((with_reducible apply te_gval); exact rfl; (focus (simp only [go_sem, hNE, hf, hb]; first | done | exact rfl)); exact rfl; (intro _ _ _ h; cases h); (focus (intro hG; simp only [go_sem, hNE, hf, hb, hG]; first | done | exact rfl)))
          | ((with_reducible apply te_gcallS); exact rfl; (focus (simp only [go_sem, hNE, hf, hb]; first | done | exact rfl)); (focus (simp only [go_sem, hNE, hf, hb]; first | done | exact rfl)); (focus (intro hG; simp only [go_sem, hNE, hf, hb, hG]; first | done | exact rfl)); (focus (simp only [go_sem, hNE, hf, hb]; done)); (intro hG; first | exact p12 | exact p13 l | exact p14 c))
          | ((with_reducible apply t_cond); (focus (simp only [go_sem, hNE, hf, hb]; first | done | exact rfl)))
          | (with_reducible intro hc; with_reducible exact Bool.noConfusion hc)
          | (with_reducible intro hc; have hC := And.intro hC hc))
      (first | apply pend rs3 | apply pendN rs3); (focus (simp only [go_sem]; first | done | exact rfl)); (focus (simp only [go_sem]; first | done | exact rfl))
    | true =>
      obtain ⟨ht, hl⟩ := fewB_tiny hf
      have hcl := briefB_len hb
      have hc1 : c.length ≤ 1000 := by omega
      have q15 := p15 l c ht.small hc1
      have q18 := p18 l c ht.small hc1
      rw [encLE] at q15
      by_cases hD : orE [itfErr l, callErr c] = 0
      · obtain ⟨hi, hk⟩ : itfErr l = 0 ∧ callErr c = 0 := by
          rw [orE_two] at hD
          split at hD
          · exact ⟨by assumption, hD⟩
          · contradiction
        have ec : candidates l c = (candF c l 0, 0) := by rw [candidates, if_pos hD]
        have hwl := candF_len c l 0
        have q21 := p21 l c ht.small hc1
        have q22 := p22 (candF c l 0) (candF c l 0) (by omega) (by omega)
        rw [ints_self] at q22
        rw [resolved, ec] at q18
        rw [ec] at q15
        obtain ⟨w, hw⟩ : ∃ w, candF c l 0 = w := ⟨_, rfl⟩
        rw [hw] at q15 q18 q21 q22 hwl
        cases w with
        | nil =>
          rw [if_neg (by decide)] at q18
          (refine ppure_of_T ok3 (by simp only [List.length_cons, List.length_nil]; decide) ?_; refine t_seq ?_)
          (have hNE := True.intro; have hC := True.intro; repeat' first
              | with_reducible refine k_seq ?_
              | with_reducible refine t_seq ?_
              | with_reducible refine t_reg ?_
              | with_reducible refine t_nil ?_
              | with_reducible refine t_skip ?_
              | with_reducible refine t_ret ?_
              | with_reducible refine k_seq_ret ?_
              | with_reducible refine k_blk_ret ?_
              | with_reducible refine t_block ?_
              | ((with_reducible apply te_val); exact rfl; (intro _ _ _ h; cases h); (focus (simp only [go_sem, hNE, hf, hb, hi, hk, clIs, nmI, nmI6, cast0]; first | done | exact rfl)))
              | ((with_reducible apply te_callS); (focus (simp only [go_sem, hNE, hf, hb, hi, hk, clIs, nmI, nmI6, cast0]; first | done | exact rfl)); (focus (simp only [go_sem, hNE, hf, hb, hi, hk, clIs, nmI, nmI6, cast0]; first | done | exact rfl)); (focus (simp only [go_sem, hNE, hf, hb, hi, hk, clIs, nmI, nmI6, cast0]; first | done | exact rfl)); (first | exact p12 | exact p13 l | exact p14 c | exact p16 l ht.small | exact p17 c hc1 | exact q15 | exact q18 | exact p19 l ht.small | exact p20 c hc1 | exact q21 | exact q22))
              | ((with_reducible apply te_gval); exact rfl; (focus (simp only [go_sem, hNE, hf, hb, hi, hk, clIs, nmI, nmI6, cast0]; first | done | exact rfl)); exact rfl; (intro _ _ _ h; cases h); (focus (intro hG; simp only [go_sem, hNE, hf, hb, hi, hk, clIs, nmI, nmI6, cast0, hG]; first | done | exact rfl)))
              | ((with_reducible apply te_gcallS); exact rfl; (focus (simp only [go_sem, hNE, hf, hb, hi, hk, clIs, nmI, nmI6, cast0]; first | done | exact rfl)); (focus (simp only [go_sem, hNE, hf, hb, hi, hk, clIs, nmI, nmI6, cast0]; first | done | exact rfl)); (focus (intro hG; simp only [go_sem, hNE, hf, hb, hi, hk, clIs, nmI, nmI6, cast0, hG]; first | done | exact rfl)); (focus (simp only [go_sem, hNE, hf, hb, hi, hk, clIs, nmI, nmI6, cast0]; done)); (intro hG; first | exact p12 | exact p13 l | exact p14 c | exact p16 l ht.small | exact p17 c hc1 | exact q15 | exact q18 | exact p19 l ht.small | exact p20 c hc1 | exact q21 | exact q22))
              | ((with_reducible apply t_cond); (focus (simp only [go_sem, hNE, hf, hb, hi, hk, clIs, nmI, nmI6, cast0]; first | done | exact rfl)))
              | (with_reducible intro hc; with_reducible exact Bool.noConfusion hc)
              | (with_reducible intro hc; have hC := And.intro hC hc))
          (first | apply pend rs3 | apply pendN rs3); (focus (simp only [go_sem, resErr, orE, broken]; first | done | exact rfl)); (focus (simp only [go_sem, resErr, orE, broken]; first | done | exact rfl))
        | cons v w =>
          cases w with
          | nil =>
            rw [if_pos (by rfl)] at q18
            simp only [List.headD_cons] at q18
            (refine ppure_of_T ok3 (by simp only [List.length_cons, List.length_nil]; decide) ?_; refine t_seq ?_)
            (have hNE := True.intro; have hC := True.intro; repeat' first
                | with_reducible refine k_seq ?_
                | with_reducible refine t_seq ?_
                | with_reducible refine t_reg ?_
                | with_reducible refine t_nil ?_
                | with_reducible refine t_skip ?_
                | with_reducible refine t_ret ?_
                | with_reducible refine k_seq_ret ?_
                | with_reducible refine k_blk_ret ?_
                | with_reducible refine t_block ?_
                | ((with_reducible apply te_val); exact rfl; (intro _ _ _ h; cases h); (focus (simp only [go_sem, hNE, hf, hb, hi, hk, clIs, nmI, nmI6, cast0, encI]; first | done | exact rfl)))
                | ((with_reducible apply te_callS); (focus (simp only [go_sem, hNE, hf, hb, hi, hk, clIs, nmI, nmI6, cast0, encI]; first | done | exact rfl)); (focus (simp only [go_sem, hNE, hf, hb, hi, hk, clIs, nmI, nmI6, cast0, encI]; first | done | exact rfl)); (focus (simp only [go_sem, hNE, hf, hb, hi, hk, clIs, nmI, nmI6, cast0, encI]; first | done | exact rfl)); (first | exact p12 | exact p13 l | exact p14 c | exact p16 l ht.small | exact p17 c hc1 | exact q15 | exact q18 | exact p19 l ht.small | exact p20 c hc1 | exact q21 | exact q22))
                | ((with_reducible apply te_gval); exact rfl; (focus (simp only [go_sem, hNE, hf, hb, hi, hk, clIs, nmI, nmI6, cast0, encI]; first | done | exact rfl)); exact rfl; (intro _ _ _ h; cases h); (focus (intro hG; simp only [go_sem, hNE, hf, hb, hi, hk, clIs, nmI, nmI6, cast0, encI, hG]; first | done | exact rfl)))
                | ((with_reducible apply te_gcallS); exact rfl; (focus (simp only [go_sem, hNE, hf, hb, hi, hk, clIs, nmI, nmI6, cast0, encI]; first | done | exact rfl)); (focus (simp only [go_sem, hNE, hf, hb, hi, hk, clIs, nmI, nmI6, cast0, encI]; first | done | exact rfl)); (focus (intro hG; simp only [go_sem, hNE, hf, hb, hi, hk, clIs, nmI, nmI6, cast0, encI, hG]; first | done | exact rfl)); (focus (simp only [go_sem, hNE, hf, hb, hi, hk, clIs, nmI, nmI6, cast0, encI]; done)); (intro hG; first | exact p12 | exact p13 l | exact p14 c | exact p16 l ht.small | exact p17 c hc1 | exact q15 | exact q18 | exact p19 l ht.small | exact p20 c hc1 | exact q21 | exact q22))
                | ((with_reducible apply t_cond); (focus (simp only [go_sem, hNE, hf, hb, hi, hk, clIs, nmI, nmI6, cast0, encI]; first | done | exact rfl)))
                | (with_reducible intro hc; with_reducible exact Bool.noConfusion hc)
                | (with_reducible intro hc; have hC := And.intro hC hc))
            (first | apply pend rs3 | apply pendN rs3); (focus (simp only [go_sem]; first | done | exact rfl)); (focus (simp only [go_sem]; first | done | exact rfl))
          | cons v2 w =>
            have h2 : ((w.length + 1 + 1 : Nat) : Int) = 0 ↔ False := by simp; omega
            have h3 : ((w.length + 1 + 1 : Nat) : Int) = 1 ↔ False := by simp; omega
            have hre : resErr (v :: v2 :: w, 0) = 30 := by
              simp only [resErr, List.length_cons]
              rw [decide_eq_true (by omega), decide_eq_false (by omega)]; rfl
            rw [if_neg (by rw [hre]; decide), hre] at q18
            (refine ppure_of_T ok3 (by simp only [List.length_cons, List.length_nil]; decide) ?_; refine t_seq ?_)
            (have hNE := True.intro; have hC := True.intro; repeat' first
                | with_reducible refine k_seq ?_
                | with_reducible refine t_seq ?_
                | with_reducible refine t_reg ?_
                | with_reducible refine t_nil ?_
                | with_reducible refine t_skip ?_
                | with_reducible refine t_ret ?_
                | with_reducible refine k_blk ?_
                | with_reducible refine t_block ?_
                | ((with_reducible apply te_val); exact rfl; (intro _ _ _ h; cases h); (focus (simp only [go_sem, hNE, hf, hb, hi, hk, clIs, nmI, nmI6, cast0, encI, h2, h3]; first | done | exact rfl)))
                | ((with_reducible apply te_callS); (focus (simp only [go_sem, hNE, hf, hb, hi, hk, clIs, nmI, nmI6, cast0, encI, h2, h3]; first | done | exact rfl)); (focus (simp only [go_sem, hNE, hf, hb, hi, hk, clIs, nmI, nmI6, cast0, encI, h2, h3]; first | done | exact rfl)); (focus (simp only [go_sem, hNE, hf, hb, hi, hk, clIs, nmI, nmI6, cast0, encI, h2, h3]; first | done | exact rfl)); (first | exact p12 | exact p13 l | exact p14 c | exact p16 l ht.small | exact p17 c hc1 | exact q15 | exact q18 | exact p19 l ht.small | exact p20 c hc1 | exact q21 | exact q22))
                | ((with_reducible apply te_gval); exact rfl; (focus (simp only [go_sem, hNE, hf, hb, hi, hk, clIs, nmI, nmI6, cast0, encI, h2, h3]; first | done | exact rfl)); exact rfl; (intro _ _ _ h; cases h); (focus (intro hG; simp only [go_sem, hNE, hf, hb, hi, hk, clIs, nmI, nmI6, cast0, encI, h2, h3, hG]; first | done | exact rfl)))
                | ((with_reducible apply te_gcallS); exact rfl; (focus (simp only [go_sem, hNE, hf, hb, hi, hk, clIs, nmI, nmI6, cast0, encI, h2, h3]; first | done | exact rfl)); (focus (simp only [go_sem, hNE, hf, hb, hi, hk, clIs, nmI, nmI6, cast0, encI, h2, h3]; first | done | exact rfl)); (focus (intro hG; simp only [go_sem, hNE, hf, hb, hi, hk, clIs, nmI, nmI6, cast0, encI, h2, h3, hG]; first | done | exact rfl)); (focus (simp only [go_sem, hNE, hf, hb, hi, hk, clIs, nmI, nmI6, cast0, encI, h2, h3]; done)); (intro hG; first | exact p12 | exact p13 l | exact p14 c | exact p16 l ht.small | exact p17 c hc1 | exact q15 | exact q18 | exact p19 l ht.small | exact p20 c hc1 | exact q21 | exact q22))
                | ((with_reducible apply t_cond); (focus (simp only [go_sem, hNE, hf, hb, hi, hk, clIs, nmI, nmI6, cast0, encI, h2, h3]; first | done | exact rfl)))
                | (with_reducible intro hc; with_reducible exact Bool.noConfusion hc)
                | (with_reducible intro hc; have hC := And.intro hC hc))
            (first | apply pend rs3 | apply pendN rs3); (focus (simp only [go_sem]; first | done | exact rfl)); (focus (simp only [go_sem]; first | done | exact rfl))
      · have ec : candidates l c = ([], orE [itfErr l, callErr c]) := by rw [candidates, if_neg hD]
        have er : resolved l c = (0, orE [itfErr l, callErr c]) := by
          have : resErr (candidates l c) = orE [itfErr l, callErr c] := by
            rw [ec, resErr, orE_two, if_neg hD]
          rw [resolved, if_neg (by rw [this]; exact hD), this]
        rw [ec] at q15
        rw [er] at q18
        by_cases hi : itfErr l = 0
        · have hD2 : orE [itfErr l, callErr c] = callErr c := by rw [orE_two, if_pos hi]
          rw [hD2] at q15 q18 hD
          (refine ppure_of_T ok3 (by simp only [List.length_cons, List.length_nil]; decide) ?_; refine t_seq ?_)
          (have hNE := True.intro; have hC := True.intro; repeat' first
              | with_reducible refine k_seq ?_
              | with_reducible refine t_seq ?_
              | with_reducible refine t_reg ?_
              | with_reducible refine t_nil ?_
              | with_reducible refine t_skip ?_
              | with_reducible refine t_ret ?_
              | with_reducible refine k_seq_ret ?_
              | ((with_reducible apply te_val); exact rfl; (intro _ _ _ h; cases h); (focus (simp only [go_sem, hNE, hf, hb, hi, hD, cast0]; first | done | exact rfl)))
              | ((with_reducible apply te_callS); (focus (simp only [go_sem, hNE, hf, hb, hi, hD, cast0]; first | done | exact rfl)); (focus (simp only [go_sem, hNE, hf, hb, hi, hD, cast0]; first | done | exact rfl)); (focus (simp only [go_sem, hNE, hf, hb, hi, hD, cast0]; first | done | exact rfl)); (first | exact p12 | exact p13 l | exact p14 c | exact p16 l ht.small | exact p17 c hc1 | exact q15 | exact q18 | exact p19 l ht.small | exact p20 c hc1))
              | ((with_reducible apply te_gval); exact rfl; (focus (simp only [go_sem, hNE, hf, hb, hi, hD, cast0]; first | done | exact rfl)); exact rfl; (intro _ _ _ h; cases h); (focus (intro hG; simp only [go_sem, hNE, hf, hb, hi, hD, cast0, hG]; first | done | exact rfl)))
              | ((with_reducible apply te_gcallS); exact rfl; (focus (simp only [go_sem, hNE, hf, hb, hi, hD, cast0]; first | done | exact rfl)); (focus (simp only [go_sem, hNE, hf, hb, hi, hD, cast0]; first | done | exact rfl)); (focus (intro hG; simp only [go_sem, hNE, hf, hb, hi, hD, cast0, hG]; first | done | exact rfl)); (focus (simp only [go_sem, hNE, hf, hb, hi, hD, cast0]; done)); (intro hG; first | exact p12 | exact p13 l | exact p14 c | exact p16 l ht.small | exact p17 c hc1 | exact q15 | exact q18 | exact p19 l ht.small | exact p20 c hc1))
              | ((with_reducible apply t_cond); (focus (simp only [go_sem, hNE, hf, hb, hi, hD, cast0]; first | done | exact rfl)))
              | (with_reducible intro hc; with_reducible exact Bool.noConfusion hc)
              | (with_reducible intro hc; have hC := And.intro hC hc))
          (first | apply pend rs3 | apply pendN rs3); (focus (simp only [go_sem]; first | done | exact rfl)); (focus (simp only [go_sem]; first | done | exact rfl))
        · have hD2 : orE [itfErr l, callErr c] = itfErr l := by rw [orE_two, if_neg hi]
          rw [hD2] at q15 q18
          (refine ppure_of_T ok3 (by simp only [List.length_cons, List.length_nil]; decide) ?_; refine t_seq ?_)
          (have hNE := True.intro; have hC := True.intro; repeat' first
              | with_reducible refine k_seq ?_
              | with_reducible refine t_seq ?_
              | with_reducible refine t_reg ?_
              | with_reducible refine t_nil ?_
              | with_reducible refine t_skip ?_
              | with_reducible refine t_ret ?_
              | with_reducible refine k_seq_ret ?_
              | ((with_reducible apply te_val); exact rfl; (intro _ _ _ h; cases h); (focus (simp only [go_sem, hNE, hf, hb, hi, cast0]; first | done | exact rfl)))
              | ((with_reducible apply te_callS); (focus (simp only [go_sem, hNE, hf, hb, hi, cast0]; first | done | exact rfl)); (focus (simp only [go_sem, hNE, hf, hb, hi, cast0]; first | done | exact rfl)); (focus (simp only [go_sem, hNE, hf, hb, hi, cast0]; first | done | exact rfl)); (first | exact p12 | exact p13 l | exact p14 c | exact p16 l ht.small | exact p17 c hc1 | exact q15 | exact q18 | exact p19 l ht.small | exact p20 c hc1))
              | ((with_reducible apply te_gval); exact rfl; (focus (simp only [go_sem, hNE, hf, hb, hi, cast0]; first | done | exact rfl)); exact rfl; (intro _ _ _ h; cases h); (focus (intro hG; simp only [go_sem, hNE, hf, hb, hi, cast0, hG]; first | done | exact rfl)))
              | ((with_reducible apply te_gcallS); exact rfl; (focus (simp only [go_sem, hNE, hf, hb, hi, cast0]; first | done | exact rfl)); (focus (simp only [go_sem, hNE, hf, hb, hi, cast0]; first | done | exact rfl)); (focus (intro hG; simp only [go_sem, hNE, hf, hb, hi, cast0, hG]; first | done | exact rfl)); (focus (simp only [go_sem, hNE, hf, hb, hi, cast0]; done)); (intro hG; first | exact p12 | exact p13 l | exact p14 c | exact p16 l ht.small | exact p17 c hc1 | exact q15 | exact q18 | exact p19 l ht.small | exact p20 c hc1))
              | ((with_reducible apply t_cond); (focus (simp only [go_sem, hNE, hf, hb, hi, cast0]; first | done | exact rfl)))
              | (with_reducible intro hc; with_reducible exact Bool.noConfusion hc)
              | (with_reducible intro hc; have hC := And.intro hC hc))
          (first | apply pend rs3 | apply pendN rs3); (focus (simp only [go_sem]; first | done | exact rfl)); (focus (simp only [go_sem]; first | done | exact rfl))
end Go.Proofs.Ytloecggdboingaa
namespace Go.Proofs.Ytloecggdboingaa
open Go.ChangeShapes Go.WideShapes Go.ChangeAt Go.RowKit Go.Proofs
set_option linter.unusedVariables false

set_option maxRecDepth 100000 in
theorem genericResolves_lifted (os : Os) (started : os.Started) (H : Type) (enc : TypeId × Value → H) :
    ReturnsInHanded {} Try.checked os 3 .any (Rows.genericResolvesSpec.pre6 enc Try.prog Try.f3 Rows.genericResolvesRow.domain false) (Rows.genericResolvesSpec.post enc Try.prog Try.f3 false true false false) := by
  refine returnsInHanded_of_change_sized (C := Try.checked) ownKn started (by kernel_rfl) Try.func3
    (ChangeSpec.witness6 (enc := enc) (C := Try.checked) false ⟨#[], #[.slice none 0 0, .slice none 0 0], []⟩ 8 (by kernel_rfl) (by kernel_rfl) (by kernel_rfl) (by kernel_rfl)) ?_
  intro W base args ds gs before hval0 hW hcnd hsz0 _
  have hval : ∀ (j : Nat) t v, Try.f3.params[j]? = some t → args[j]? = some v → Value.okWide Try.prog W .any base t v := hval0
  have hW' := hW
  obtain ⟨p, q, hA0, hV, rfl, hfz, hnd⟩ := hW
  have hA : DataW.TrodAll enc Try.prog W 0 (fun _ => true) true Try.f3.params.toList args.toList ds p := hA0
  rw [Try.params3] at hA hval
  obtain ⟨v0, vs0, d0, ds0, p0, q0, hargs, rfl, rfl, h0, r0⟩ := trodAll_cons hA
  obtain ⟨v1, vs1, d1, ds1, p1, q1, rfl, rfl, rfl, h1, r1⟩ := trodAll_cons r0
  obtain ⟨rfl, rfl, rfl⟩ := trodAll_nil r1
  obtain rfl : args = #[v0, v1] := by cases args; simp_all
  obtain ⟨rfl, rfl⟩ := trodVars_none hV
  obtain ⟨l, w0⟩ := arg22 (hval 0 22 v0 rfl rfl) h0
  have k0 := h0
  have lt0 : ∀ x ∈ p0, x.block < W.heap.size := by obtain ⟨m, hm⟩ := k0; exact DataW.trod_lt m _ _ _ hm
  obtain ⟨c, w1⟩ := arg23 (hval 1 23 v1 rfl rfl) h1
  have k1 := h1
  have lt1 : ∀ x ∈ p1, x.block < W.heap.size := by obtain ⟨m, hm⟩ := k1; exact DataW.trod_lt m _ _ _ hm
  clear hA0 hval0 hsz0
  refine ((law3 l c).law (.mk2 w0 w1)).mono fun e W' ⟨he, bel⟩ => ?_
  subst he
  exact ⟨_, rfl, _, _, _, [], _, [], hW', trodAll_mk1 (shut_bool u_4 _), (trodAll_cons_mk (Below.trod laidOut (by kernel_rfl) (of_decide_eq_true (by kernel_rfl)) k0 bel lt0) (trodAll_cons_mk (Below.trod laidOut (by kernel_rfl) (of_decide_eq_true (by kernel_rfl)) k1 bel lt1) trodAll_mk0)), rfl, bel.frame _, fun h => by cases h⟩
theorem genericResolves_holds : Rows.GenericResolvesSaid :=
  OpenClaim.holds_of_wide 3 Try.f3 rfl rfl rfl rfl rfl rfl rfl ⟨rfl, rfl, rfl, rfl, rfl⟩ rfl rfl rfl rfl rfl (by kernel_rfl) Try.func3 (by kernel_rfl)
    (of_decide_eq_true (by kernel_rfl)) (by unfold Func.isWrapper; first | (rw [if_pos (by decide +kernel)]; kernel_rfl) | (rw [if_neg (by decide +kernel)]; exact ⟨rfl, rfl⟩))
    (fun os started H enc _ => genericResolves_lifted os started H enc)
#print axioms genericResolves_holds
end Go.Proofs.Ytloecggdboingaa
