/- Chapter 18: GenericChecks. -/
import Derived.Test.YtloecggdboingaaCH
import Derived.Test.YtloecggdboingaaFC
namespace Go.Proofs.Ytloecggdboingaa
open Go.RowKit Go.Proofs
set_option linter.unusedVariables false
set_option linter.unusedSimpArgs false
attribute [local irreducible] PPure

theorem isComp_ok {a b : Dum} (ha : dumErr a = 0) (hb : dumErr b = 0) : isComp a b = (compB a b, 0) := by
  unfold isComp; rw [orE_two, if_pos ha, if_pos hb]
theorem isComp_a {a b : Dum} (ha : ¬ dumErr a = 0) : isComp a b = (false, dumErr a) := by
  unfold isComp; rw [orE_two, if_neg ha, if_neg ha]
theorem isComp_b {a b : Dum} (ha : dumErr a = 0) (hb : ¬ dumErr b = 0) : isComp a b = (false, dumErr b) := by
  unfold isComp; rw [orE_two, if_pos ha, if_neg hb]
set_option maxHeartbeats 4000000 in
theorem law5 (l : List Prc) (c : List Act) : PPure Try.prog 5 [.list .any (l.map encP), .list .any (c.map encA)] (.bool true) := by
  cases hf : fewB l with
  | false =>
    (refine ppure_of_T ok5 (by simp only [List.length_cons, List.length_nil]; decide) ?_; refine t_seq ?_)
    (have hNE := True.intro; have hC := True.intro; repeat' first
        | with_reducible refine k_seq ?_
        | with_reducible refine t_seq ?_
        | with_reducible refine t_reg ?_
        | with_reducible refine t_nil ?_
        | with_reducible refine t_skip ?_
        | with_reducible refine t_ret ?_
        | with_reducible refine k_seq_ret ?_
        | ((with_reducible apply te_val); exact rfl; (intro _ _ _ h; cases h); (focus (simp only [go_sem, hNE, hf]; first | done | exact rfl)))
        | ((with_reducible apply te_callS); (focus (simp only [go_sem, hNE, hf]; first | done | exact rfl)); (focus (simp only [go_sem, hNE, hf]; first | done | exact rfl)); (focus (simp only [go_sem, hNE, hf]; first | done | exact rfl)); (first | exact p12 | exact p13 l | exact p14 c))
        | ((with_reducible apply te_gval); exact rfl; (focus (simp only [go_sem, hNE, hf]; first | done | exact rfl)); exact rfl; (intro _ _ _ h; cases h); (focus (intro hG; simp only [go_sem, hNE, hf, hG]; first | done | exact rfl)))
        | ((with_reducible apply te_gcallS); exact rfl; (focus (simp only [go_sem, hNE, hf]; first | done | exact rfl)); (focus (simp only [go_sem, hNE, hf]; first | done | exact rfl)); (focus (intro hG; simp only [go_sem, hNE, hf, hG]; first | done | exact rfl)); (focus (simp only [go_sem, hNE, hf]; done)); (intro hG; first | exact p12 | exact p13 l | exact p14 c))
        | ((with_reducible apply t_cond); (focus (simp only [go_sem, hNE, hf]; first | done | exact rfl)))
        | (with_reducible intro hc; with_reducible exact Bool.noConfusion hc)
        | (with_reducible intro hc; have hC := And.intro hC hc))
    (first | apply pend rs5 | apply pendN rs5); (focus (simp only [go_sem]; first | done | exact rfl)); (focus (simp only [go_sem]; first | done | exact rfl))
  | true =>
    cases hb : briefB c with
    | false =>
      (refine ppure_of_T ok5 (by simp only [List.length_cons, List.length_nil]; decide) ?_; refine t_seq ?_)
      (have hNE := True.intro; have hC := True.intro; repeat' first
          | with_reducible refine k_seq ?_
          | with_reducible refine t_seq ?_
          | with_reducible refine t_reg ?_
          | with_reducible refine t_nil ?_
          | with_reducible refine t_skip ?_
          | with_reducible refine t_ret ?_
          | with_reducible refine k_seq_ret ?_
          | ((with_reducible apply te_val); exact rfl; (intro _ _ _ h; cases h); (focus (simp only [go_sem, hNE, hf, hb]; first | done | exact rfl)))
          | ((with_reducible apply te_callS); (focus (simp only [go_sem, hNE, hf, hb]; first | done | exact rfl)); (focus (simp only [go_sem, hNE, hf, hb]; first | done | exact rfl)); (focus (simp only [go_sem, hNE, hf, hb]; first | done | exact rfl)); (first | exact p12 | exact p13 l | exact p14 c))
          | ((with_reducible apply te_gval); exact rfl; (focus (simp only [go_sem, hNE, hf, hb]; first | done | exact rfl)); exact rfl; (intro _ _ _ h; cases h); (focus (intro hG; simp only [go_sem, hNE, hf, hb, hG]; first | done | exact rfl)))
          | ((with_reducible apply te_gcallS); exact rfl; (focus (simp only [go_sem, hNE, hf, hb]; first | done | exact rfl)); (focus (simp only [go_sem, hNE, hf, hb]; first | done | exact rfl)); (focus (intro hG; simp only [go_sem, hNE, hf, hb, hG]; first | done | exact rfl)); (focus (simp only [go_sem, hNE, hf, hb]; done)); (intro hG; first | exact p12 | exact p13 l | exact p14 c))
          | ((with_reducible apply t_cond); (focus (simp only [go_sem, hNE, hf, hb]; first | done | exact rfl)))
          | (with_reducible intro hc; with_reducible exact Bool.noConfusion hc)
          | (with_reducible intro hc; have hC := And.intro hC hc))
      (first | apply pend rs5 | apply pendN rs5); (focus (simp only [go_sem]; first | done | exact rfl)); (focus (simp only [go_sem]; first | done | exact rfl))
    | true =>
      obtain ⟨ht, hl⟩ := fewB_tiny hf
      have hcl := briefB_len hb
      have hc1 : c.length ≤ 1000 := by omega
      have q29 := p29 l ht.small
      have q30 := p30 c hc1
      have q31 := p31 l ht.small
      have q32 := p32 c hc1
      cases l with
      | nil =>
        (refine ppure_of_T ok5 (by simp only [List.length_cons, List.length_nil]; decide) ?_; refine t_seq ?_)
        (have hNE := True.intro; have hC := True.intro; repeat' first
            | with_reducible refine k_seq ?_
            | with_reducible refine t_seq ?_
            | with_reducible refine t_reg ?_
            | with_reducible refine t_nil ?_
            | with_reducible refine t_skip ?_
            | with_reducible refine t_ret ?_
            | with_reducible refine k_seq_ret ?_
            | ((with_reducible apply te_val); exact rfl; (intro _ _ _ h; cases h); (focus (simp only [go_sem, hNE, hf, hb, cast0]; first | done | exact rfl)))
            | ((with_reducible apply te_callS); (focus (simp only [go_sem, hNE, hf, hb, cast0]; first | done | exact rfl)); (focus (simp only [go_sem, hNE, hf, hb, cast0]; first | done | exact rfl)); (focus (simp only [go_sem, hNE, hf, hb, cast0]; first | done | exact rfl)); (first | exact p12 | exact p13 [] | exact p14 c | exact p16 [] ht.small | exact p17 c hc1 | exact q29 | exact q30 | exact q31 | exact q32))
            | ((with_reducible apply te_gval); exact rfl; (focus (simp only [go_sem, hNE, hf, hb, cast0]; first | done | exact rfl)); exact rfl; (intro _ _ _ h; cases h); (focus (intro hG; simp only [go_sem, hNE, hf, hb, cast0, hG]; first | done | exact rfl)))
            | ((with_reducible apply te_gcallS); exact rfl; (focus (simp only [go_sem, hNE, hf, hb, cast0]; first | done | exact rfl)); (focus (simp only [go_sem, hNE, hf, hb, cast0]; first | done | exact rfl)); (focus (intro hG; simp only [go_sem, hNE, hf, hb, cast0, hG]; first | done | exact rfl)); (focus (simp only [go_sem, hNE, hf, hb, cast0]; done)); (intro hG; first | exact p12 | exact p13 [] | exact p14 c | exact p16 [] ht.small | exact p17 c hc1 | exact q29 | exact q30 | exact q31 | exact q32))
            | ((with_reducible apply t_cond); (focus (simp only [go_sem, hNE, hf, hb, cast0]; first | done | exact rfl)))
            | (with_reducible intro hc; with_reducible exact Bool.noConfusion hc)
            | (with_reducible intro hc; have hC := And.intro hC hc))
        (first | apply pend rs5 | apply pendN rs5); (focus (simp only [go_sem]; first | done | exact rfl)); (focus (simp only [go_sem]; first | done | exact rfl))
      | cons p0 rest =>
        have hp0 : p0.ds.length ≤ 900 := ht.2 p0 List.mem_cons_self
        have hz : (((rest.length + 1 : Nat) : Int) = 0) = False := eq_false (by omega)
        have hz2 : ((0 : Int) < ((rest.length + 1 : Nat) : Int)) = True := eq_true (by omega)
        have hz3 : ((0 : Int) ≤ ((rest.length + 1 : Nat) : Int)) = True := eq_true (by omega)
        have q13 := p13 (p0 :: rest)
        have q16 := p16 (p0 :: rest) ht.small
        simp only [List.map_cons, encP] at q13 q16 q29 q31 ⊢
        (refine ppure_of_T ok5 (by simp only [List.length_cons, List.length_nil]; decide) ?_; refine t_seq ?_)
        (have hNE := True.intro; have hC := True.intro; repeat' first
            | with_reducible refine k_seq ?_
            | with_reducible refine t_seq ?_
            | with_reducible refine t_reg ?_
            | with_reducible refine t_nil ?_
            | with_reducible refine t_skip ?_
            | with_reducible refine t_block ?_
            | ((with_reducible apply te_val); exact rfl; (intro _ _ _ h; cases h); (focus (simp only [go_sem, hNE, hf, hb, cast0, hz, encP]; first | done | exact rfl)))
            | ((with_reducible apply te_callS); (focus (simp only [go_sem, hNE, hf, hb, cast0, hz, encP]; first | done | exact rfl)); (focus (simp only [go_sem, hNE, hf, hb, cast0, hz, encP]; first | done | exact rfl)); (focus (simp only [go_sem, hNE, hf, hb, cast0, hz, encP]; first | done | exact rfl)); (first | exact p12 | exact q13 | exact p14 c | exact q16 | exact p17 c hc1 | exact q29 | exact q30 | exact q31 | exact q32))
            | ((with_reducible apply te_gval); exact rfl; (focus (simp only [go_sem, hNE, hf, hb, cast0, hz, encP]; first | done | exact rfl)); exact rfl; (intro _ _ _ h; cases h); (focus (intro hG; simp only [go_sem, hNE, hf, hb, cast0, hz, encP, hG]; first | done | exact rfl)))
            | ((with_reducible apply te_gcallS); exact rfl; (focus (simp only [go_sem, hNE, hf, hb, cast0, hz, encP]; first | done | exact rfl)); (focus (simp only [go_sem, hNE, hf, hb, cast0, hz, encP]; first | done | exact rfl)); (focus (intro hG; simp only [go_sem, hNE, hf, hb, cast0, hz, encP, hG]; first | done | exact rfl)); (focus (simp only [go_sem, hNE, hf, hb, cast0, hz, encP]; done)); (intro hG; first | exact p12 | exact q13 | exact p14 c | exact q16 | exact p17 c hc1 | exact q29 | exact q30 | exact q31 | exact q32))
            | ((with_reducible apply t_cond); (focus (simp only [go_sem, hNE, hf, hb, cast0, hz, encP]; first | done | exact rfl)))
            | (with_reducible intro hc; with_reducible exact Bool.noConfusion hc)
            | (with_reducible intro hc; have hC := And.intro hC hc))
        refine t_loopE (fun (k0 : Nat) (E0 : Nat → PV) (H0 : Hp) => ∃ (i : Nat), i + k0 = p0.ds.length ∧ E0 11 = .int .i64 i) (p0.ds.length) ⟨0, (by first | omega | rfl | assumption | (simp only [go_sem, hz, cast0]; first | done | rfl | assumption | omega)), (by simp only [go_sem, hz, cast0]; first | done | rfl)⟩ ?_
        rintro k0 E0 H0 hfr0 ⟨i, hk, h0_11⟩
        have e0_0 := hfr0 0 rfl
        simp only [go_sem, hz, cast0] at e0_0
        clear hfr0
        by_cases hi : i < p0.ds.length
        · obtain ⟨y, hy, _⟩ := at_list hi
          obtain ⟨x, hx, _⟩ := at_list (xs := p0.ds) (i := 0) (by omega)
          have hlt := lt_int hi
          have hlt0 : (0 : Int) < (p0.ds.length : Int) := by omega
          have hw := wrap_next hi (show p0.ds.length ≤ 1000 by omega)
          have q33 := p33 x y
          have q34x := p34 x
          have q34y := p34 y
          have q35 := p35 x y
          simp only [encD] at q33 q34x q34y q35
          by_cases hdx : dumErr x = 0
          · by_cases hdy : dumErr y = 0
            · rw [isComp_ok hdx hdy] at q33
              (have hA := And.intro e0_0 (h0_11); have hNE := True.intro; have hC := True.intro; repeat' first
                  | ((with_reducible apply te_drwZ); (focus (simp only [effFl, List.map_cons, List.map_nil]; exact rfl)); (focus decide +kernel))
                  | with_reducible refine k_seq ?_
                  | with_reducible refine t_seq ?_
                  | with_reducible refine t_reg ?_
                  | with_reducible refine t_nil ?_
                  | with_reducible refine t_skip ?_
                  | with_reducible refine k_blk ?_
                  | with_reducible refine t_block ?_
                  | with_reducible refine m_nil ?_
                  | ((with_reducible apply te_val); exact rfl; (intro _ _ _ h; cases h); (focus (simp only [go_sem, hNE, hA, hlt, hlt0, hx, hy, hw, hz2, hz3, hdx, hdy, encP, encD]; first | done | exact rfl)))
                  | ((with_reducible apply te_callS); (focus (simp only [go_sem, hNE, hA, hlt, hlt0, hx, hy, hw, hz2, hz3, hdx, hdy, encP, encD]; first | done | exact rfl)); (focus (simp only [go_sem, hNE, hA, hlt, hlt0, hx, hy, hw, hz2, hz3, hdx, hdy, encP, encD]; first | done | exact rfl)); (focus (simp only [go_sem, hNE, hA, hlt, hlt0, hx, hy, hw, hz2, hz3, hdx, hdy, encP, encD]; first | done | exact rfl)); (first | exact q33 | exact q34x | exact q34y | exact q35))
                  | ((with_reducible apply te_gval); exact rfl; (focus (simp only [go_sem, hNE, hA, hlt, hlt0, hx, hy, hw, hz2, hz3, hdx, hdy, encP, encD]; first | done | exact rfl)); exact rfl; (intro _ _ _ h; cases h); (focus (intro hG; simp only [go_sem, hNE, hA, hlt, hlt0, hx, hy, hw, hz2, hz3, hdx, hdy, encP, encD, hG]; first | done | exact rfl)))
                  | ((with_reducible apply te_gcallS); exact rfl; (focus (simp only [go_sem, hNE, hA, hlt, hlt0, hx, hy, hw, hz2, hz3, hdx, hdy, encP, encD]; first | done | exact rfl)); (focus (simp only [go_sem, hNE, hA, hlt, hlt0, hx, hy, hw, hz2, hz3, hdx, hdy, encP, encD]; first | done | exact rfl)); (focus (intro hG; simp only [go_sem, hNE, hA, hlt, hlt0, hx, hy, hw, hz2, hz3, hdx, hdy, encP, encD, hG]; first | done | exact rfl)); (focus (simp only [go_sem, hNE, hA, hlt, hlt0, hx, hy, hw, hz2, hz3, hdx, hdy, encP, encD]; done)); (intro hG; first | exact q33 | exact q34x | exact q34y | exact q35))
                  | ((with_reducible apply me_val); exact rfl; (intro _ _ _ h; cases h); (focus (simp only [go_sem, hNE, hA, hlt, hlt0, hx, hy, hw, hz2, hz3, hdx, hdy, encP, encD]; first | done | exact rfl)))
                  | ((with_reducible apply me_alloc); (focus (simp only [go_sem, hNE, hA, hlt, hlt0, hx, hy, hw, hz2, hz3, hdx, hdy, encP, encD]; first | done | exact rfl)); exact rfl; exact rfl; (intro la ha hn1; have hNE := And.intro hNE hn1))
                  | ((with_reducible apply me_store); (focus (simp only [go_sem, hNE, hA, hlt, hlt0, hx, hy, hw, hz2, hz3, hdx, hdy, encP, encD]; first | done | exact rfl)); (focus (simp only [go_sem, hNE, hA, hlt, hlt0, hx, hy, hw, hz2, hz3, hdx, hdy, encP, encD]; first | done | exact rfl)); (focus (simp only [go_sem, hNE, hA, hlt, hlt0, hx, hy, hw, hz2, hz3, hdx, hdy, encP, encD]; first | done | exact rfl)); (focus (simp only [go_sem, hNE, hA, hlt, hlt0, hx, hy, hw, hz2, hz3, hdx, hdy, encP, encD]; first | done | exact rfl)); (focus (simp only [go_sem, hNE, hA, hlt, hlt0, hx, hy, hw, hz2, hz3, hdx, hdy, encP, encD]; first | done | exact rfl)); (focus (simp only [go_sem, hNE, hA, hlt, hlt0, hx, hy, hw, hz2, hz3, hdx, hdy, encP, encD]; first | done | exact rfl)))
                  | ((with_reducible apply t_cond); (focus (simp only [go_sem, hNE, hA, hlt, hlt0, hx, hy, hw, hz2, hz3, hdx, hdy, encP, encD]; first | done | exact rfl)))
                  | (with_reducible intro hc; with_reducible exact Bool.noConfusion hc)
                  | (with_reducible intro hc; have hC := And.intro hC hc))
              refine k_invE (k0 - 1) (by omega) ⟨i + 1, (by omega), (by simp only [go_sem, e0_0, h0_11, hw]; first | done | rfl)⟩
            · rw [isComp_b hdx hdy] at q33
              (have hA := And.intro e0_0 (h0_11); have hNE := True.intro; have hC := True.intro; repeat' first
                  | ((with_reducible apply te_drwZ); (focus (simp only [effFl, List.map_cons, List.map_nil]; exact rfl)); (focus decide +kernel))
                  | with_reducible refine k_seq ?_
                  | with_reducible refine t_seq ?_
                  | with_reducible refine t_reg ?_
                  | with_reducible refine t_nil ?_
                  | with_reducible refine t_skip ?_
                  | with_reducible refine k_blk ?_
                  | with_reducible refine t_block ?_
                  | with_reducible refine m_nil ?_
                  | ((with_reducible apply te_val); exact rfl; (intro _ _ _ h; cases h); (focus (simp only [go_sem, hNE, hA, hlt, hlt0, hx, hy, hw, hz2, hz3, hdx, hdy, encP, encD]; first | done | exact rfl)))
                  | ((with_reducible apply te_callS); (focus (simp only [go_sem, hNE, hA, hlt, hlt0, hx, hy, hw, hz2, hz3, hdx, hdy, encP, encD]; first | done | exact rfl)); (focus (simp only [go_sem, hNE, hA, hlt, hlt0, hx, hy, hw, hz2, hz3, hdx, hdy, encP, encD]; first | done | exact rfl)); (focus (simp only [go_sem, hNE, hA, hlt, hlt0, hx, hy, hw, hz2, hz3, hdx, hdy, encP, encD]; first | done | exact rfl)); (first | exact q33 | exact q34x | exact q34y | exact q35))
                  | ((with_reducible apply te_gval); exact rfl; (focus (simp only [go_sem, hNE, hA, hlt, hlt0, hx, hy, hw, hz2, hz3, hdx, hdy, encP, encD]; first | done | exact rfl)); exact rfl; (intro _ _ _ h; cases h); (focus (intro hG; simp only [go_sem, hNE, hA, hlt, hlt0, hx, hy, hw, hz2, hz3, hdx, hdy, encP, encD, hG]; first | done | exact rfl)))
                  | ((with_reducible apply te_gcallS); exact rfl; (focus (simp only [go_sem, hNE, hA, hlt, hlt0, hx, hy, hw, hz2, hz3, hdx, hdy, encP, encD]; first | done | exact rfl)); (focus (simp only [go_sem, hNE, hA, hlt, hlt0, hx, hy, hw, hz2, hz3, hdx, hdy, encP, encD]; first | done | exact rfl)); (focus (intro hG; simp only [go_sem, hNE, hA, hlt, hlt0, hx, hy, hw, hz2, hz3, hdx, hdy, encP, encD, hG]; first | done | exact rfl)); (focus (simp only [go_sem, hNE, hA, hlt, hlt0, hx, hy, hw, hz2, hz3, hdx, hdy, encP, encD]; done)); (intro hG; first | exact q33 | exact q34x | exact q34y | exact q35))
                  | ((with_reducible apply me_val); exact rfl; (intro _ _ _ h; cases h); (focus (simp only [go_sem, hNE, hA, hlt, hlt0, hx, hy, hw, hz2, hz3, hdx, hdy, encP, encD]; first | done | exact rfl)))
                  | ((with_reducible apply me_alloc); (focus (simp only [go_sem, hNE, hA, hlt, hlt0, hx, hy, hw, hz2, hz3, hdx, hdy, encP, encD]; first | done | exact rfl)); exact rfl; exact rfl; (intro la ha hn1; have hNE := And.intro hNE hn1))
                  | ((with_reducible apply me_store); (focus (simp only [go_sem, hNE, hA, hlt, hlt0, hx, hy, hw, hz2, hz3, hdx, hdy, encP, encD]; first | done | exact rfl)); (focus (simp only [go_sem, hNE, hA, hlt, hlt0, hx, hy, hw, hz2, hz3, hdx, hdy, encP, encD]; first | done | exact rfl)); (focus (simp only [go_sem, hNE, hA, hlt, hlt0, hx, hy, hw, hz2, hz3, hdx, hdy, encP, encD]; first | done | exact rfl)); (focus (simp only [go_sem, hNE, hA, hlt, hlt0, hx, hy, hw, hz2, hz3, hdx, hdy, encP, encD]; first | done | exact rfl)); (focus (simp only [go_sem, hNE, hA, hlt, hlt0, hx, hy, hw, hz2, hz3, hdx, hdy, encP, encD]; first | done | exact rfl)); (focus (simp only [go_sem, hNE, hA, hlt, hlt0, hx, hy, hw, hz2, hz3, hdx, hdy, encP, encD]; first | done | exact rfl)))
                  | ((with_reducible apply t_cond); (focus (simp only [go_sem, hNE, hA, hlt, hlt0, hx, hy, hw, hz2, hz3, hdx, hdy, encP, encD]; first | done | exact rfl)))
                  | (with_reducible intro hc; with_reducible exact Bool.noConfusion hc)
                  | (with_reducible intro hc; have hC := And.intro hC hc))
              refine k_invE (k0 - 1) (by omega) ⟨i + 1, (by omega), (by simp only [go_sem, e0_0, h0_11, hw]; first | done | rfl)⟩
          · rw [isComp_a hdx] at q33
            (have hA := And.intro e0_0 (h0_11); have hNE := True.intro; have hC := True.intro; repeat' first
                | ((with_reducible apply te_drwZ); (focus (simp only [effFl, List.map_cons, List.map_nil]; exact rfl)); (focus decide +kernel))
                | with_reducible refine k_seq ?_
                | with_reducible refine t_seq ?_
                | with_reducible refine t_reg ?_
                | with_reducible refine t_nil ?_
                | with_reducible refine t_skip ?_
                | with_reducible refine k_blk ?_
                | with_reducible refine t_block ?_
                | with_reducible refine m_nil ?_
                | ((with_reducible apply te_val); exact rfl; (intro _ _ _ h; cases h); (focus (simp only [go_sem, hNE, hA, hlt, hlt0, hx, hy, hw, hz2, hz3, hdx, encP, encD]; first | done | exact rfl)))
                | ((with_reducible apply te_callS); (focus (simp only [go_sem, hNE, hA, hlt, hlt0, hx, hy, hw, hz2, hz3, hdx, encP, encD]; first | done | exact rfl)); (focus (simp only [go_sem, hNE, hA, hlt, hlt0, hx, hy, hw, hz2, hz3, hdx, encP, encD]; first | done | exact rfl)); (focus (simp only [go_sem, hNE, hA, hlt, hlt0, hx, hy, hw, hz2, hz3, hdx, encP, encD]; first | done | exact rfl)); (first | exact q33 | exact q34x | exact q34y | exact q35))
                | ((with_reducible apply te_gval); exact rfl; (focus (simp only [go_sem, hNE, hA, hlt, hlt0, hx, hy, hw, hz2, hz3, hdx, encP, encD]; first | done | exact rfl)); exact rfl; (intro _ _ _ h; cases h); (focus (intro hG; simp only [go_sem, hNE, hA, hlt, hlt0, hx, hy, hw, hz2, hz3, hdx, encP, encD, hG]; first | done | exact rfl)))
                | ((with_reducible apply te_gcallS); exact rfl; (focus (simp only [go_sem, hNE, hA, hlt, hlt0, hx, hy, hw, hz2, hz3, hdx, encP, encD]; first | done | exact rfl)); (focus (simp only [go_sem, hNE, hA, hlt, hlt0, hx, hy, hw, hz2, hz3, hdx, encP, encD]; first | done | exact rfl)); (focus (intro hG; simp only [go_sem, hNE, hA, hlt, hlt0, hx, hy, hw, hz2, hz3, hdx, encP, encD, hG]; first | done | exact rfl)); (focus (simp only [go_sem, hNE, hA, hlt, hlt0, hx, hy, hw, hz2, hz3, hdx, encP, encD]; done)); (intro hG; first | exact q33 | exact q34x | exact q34y | exact q35))
                | ((with_reducible apply me_val); exact rfl; (intro _ _ _ h; cases h); (focus (simp only [go_sem, hNE, hA, hlt, hlt0, hx, hy, hw, hz2, hz3, hdx, encP, encD]; first | done | exact rfl)))
                | ((with_reducible apply me_alloc); (focus (simp only [go_sem, hNE, hA, hlt, hlt0, hx, hy, hw, hz2, hz3, hdx, encP, encD]; first | done | exact rfl)); exact rfl; exact rfl; (intro la ha hn1; have hNE := And.intro hNE hn1))
                | ((with_reducible apply me_store); (focus (simp only [go_sem, hNE, hA, hlt, hlt0, hx, hy, hw, hz2, hz3, hdx, encP, encD]; first | done | exact rfl)); (focus (simp only [go_sem, hNE, hA, hlt, hlt0, hx, hy, hw, hz2, hz3, hdx, encP, encD]; first | done | exact rfl)); (focus (simp only [go_sem, hNE, hA, hlt, hlt0, hx, hy, hw, hz2, hz3, hdx, encP, encD]; first | done | exact rfl)); (focus (simp only [go_sem, hNE, hA, hlt, hlt0, hx, hy, hw, hz2, hz3, hdx, encP, encD]; first | done | exact rfl)); (focus (simp only [go_sem, hNE, hA, hlt, hlt0, hx, hy, hw, hz2, hz3, hdx, encP, encD]; first | done | exact rfl)); (focus (simp only [go_sem, hNE, hA, hlt, hlt0, hx, hy, hw, hz2, hz3, hdx, encP, encD]; first | done | exact rfl)))
                | ((with_reducible apply t_cond); (focus (simp only [go_sem, hNE, hA, hlt, hlt0, hx, hy, hw, hz2, hz3, hdx, encP, encD]; first | done | exact rfl)))
                | (with_reducible intro hc; with_reducible exact Bool.noConfusion hc)
                | (with_reducible intro hc; have hC := And.intro hC hc))
            refine k_invE (k0 - 1) (by omega) ⟨i + 1, (by omega), (by simp only [go_sem, e0_0, h0_11, hw]; first | done | rfl)⟩
        · have hlt := nlt_int hi
          (have hA := And.intro e0_0 (h0_11); have hNE := True.intro; have hC := True.intro; repeat' first
              | with_reducible refine k_seq ?_
              | with_reducible refine t_seq ?_
              | with_reducible refine t_reg ?_
              | with_reducible refine t_nil ?_
              | with_reducible refine t_ret ?_
              | with_reducible refine t_exit ?_
              | with_reducible refine k_seq_exit ?_
              | with_reducible refine k_blk_exit ?_
              | with_reducible refine k_invE_exit ?_
              | ((with_reducible apply te_val); exact rfl; (intro _ _ _ h; cases h); (focus (simp only [go_sem, hNE, hA, hlt, hz2, hz3, encP]; first | done | exact rfl)))
              | ((with_reducible apply t_cond); (focus (simp only [go_sem, hNE, hA, hlt, hz2, hz3, encP]; first | done | exact rfl)))
              | (with_reducible intro hc; with_reducible exact Bool.noConfusion hc)
              | (with_reducible intro hc; have hC := And.intro hC hc))
          (first | apply pend rs5 | apply pendN rs5); (focus (simp only [go_sem, e0_0, h0_11]; first | done | exact rfl)); (focus (simp only [go_sem, e0_0, h0_11]; first | done | exact rfl))
end Go.Proofs.Ytloecggdboingaa
