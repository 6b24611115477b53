/- Chapter 18: the reference: rules that distinguish. -/
import Derived.Test.YtloecggdboingaaCD
import Derived.Test.YtloecggdboingaaFC
namespace Go.Proofs.Ytloecggdboingaa
open Go.RowKit Go.Proofs
set_option linter.unusedVariables false
set_option linter.unusedSimpArgs false
attribute [local irreducible] PPure

def distOf (a b : Prc) : Dst × Int := if bothErr a b = 0 then ((distF a b).getD dst0, broken [((distF a b).isSome, 12)]) else (dst0, bothErr a b)
theorem p40 (a b : Prc) (hA1 : a.ds.length ≤ 1000) (hB1 : b.ds.length ≤ 1000) : PPure Try.prog 40 [encP a, encP b] (.tup [encS (distOf a b).1, .int .i64 (distOf a b).2]) := by
  have q84 := p84 a b hA1 hB1
  simp only [encP, encS] at q84 ⊢
  (refine ppure_of_T ok40 (by simp only [List.length_cons, List.length_nil]; decide) ?_; refine t_seq ?_)
  (have hNE := True.intro; have hC := True.intro; repeat' first
      | ((with_reducible apply te_drwA); (focus (simp only [effFlA, List.map_cons, List.map_nil]; exact rfl)); (focus decide +kernel))
      | with_reducible refine k_seq ?_
      | with_reducible refine t_seq ?_
      | with_reducible refine t_reg ?_
      | with_reducible refine t_nil ?_
      | with_reducible refine t_skip ?_
      | with_reducible refine t_ret ?_
      | with_reducible refine k_seq_ret ?_
      | with_reducible refine m_nil ?_
      | ((with_reducible apply te_val); exact rfl; (intro _ _ _ h; cases h); (focus (simp only [go_sem, hNE, encP, encS]; first | done | exact rfl)))
      | ((with_reducible apply te_callS); (focus (simp only [go_sem, hNE, encP, encS]; first | done | exact rfl)); (focus (simp only [go_sem, hNE, encP, encS]; first | done | exact rfl)); (focus (simp only [go_sem, hNE, encP, encS]; first | done | exact rfl)); (first | exact p59 a b hA1 hB1 | exact q84 | exact p57_1 _ _))
      | ((with_reducible apply me_val); exact rfl; (intro _ _ _ h; cases h); (focus (simp only [go_sem, hNE, encP, encS]; first | done | exact rfl)))
      | ((with_reducible apply me_callS); (focus (simp only [go_sem, hNE, encP, encS]; first | done | exact rfl)); (focus (simp only [go_sem, hNE, encP, encS]; first | done | exact rfl)); (focus (simp only [go_sem, hNE, encP, encS]; first | done | exact rfl)); (first | exact p59 a b hA1 hB1 | exact q84 | exact p57_1 _ _))
      | ((with_reducible apply te_box); (focus (simp only [go_sem, hNE, encP, encS]; first | done | exact rfl)); exact rfl; (focus (simp only [go_sem, hNE, encP, encS]; first | done | exact rfl)))
      | ((with_reducible apply te_alloc); (focus (simp only [go_sem, hNE, encP, encS]; first | done | exact rfl)); exact rfl; exact rfl; (intro la ha hn1; have hNE := And.intro hNE hn1))
      | ((with_reducible apply te_store); (focus (simp only [go_sem, hNE, encP, encS]; first | done | exact rfl)); (focus (simp only [go_sem, hNE, encP, encS]; first | done | exact rfl)); (focus (simp only [go_sem, hNE, encP, encS]; first | done | exact rfl)); (focus (simp only [go_sem, hNE, encP, encS]; first | done | exact rfl)); (focus (simp only [go_sem, hNE, encP, encS]; first | done | exact rfl)); (focus (simp only [go_sem, hNE, encP, encS]; first | done | exact rfl)))
      | ((with_reducible apply me_store); (focus (simp only [go_sem, hNE, encP, encS]; first | done | exact rfl)); (focus (simp only [go_sem, hNE, encP, encS]; first | done | exact rfl)); (focus (simp only [go_sem, hNE, encP, encS]; first | done | exact rfl)); (focus (simp only [go_sem, hNE, encP, encS]; first | done | exact rfl)); (focus (simp only [go_sem, hNE, encP, encS]; first | done | exact rfl)); (focus (simp only [go_sem, hNE, encP, encS]; first | done | exact rfl)))
      | ((with_reducible apply t_cond); (focus (simp only [go_sem, hNE, encP, encS]; first | done | exact rfl)))
      | (with_reducible intro hc; have hC := And.intro hC hc))
  · have e : ¬ bothErr a b = 0 := by simpa using hC
    (first | apply pend rs40 | apply pendN rs40); (focus (simp only [go_sem, distOf, e, dst0]; first | done | exact rfl)); (focus (simp only [go_sem, distOf, e, dst0]; first | done | exact rfl))
  · have e : bothErr a b = 0 := by simpa using hC
    (first | apply pend rs40 | apply pendN rs40); (focus (simp only [go_sem, distOf, e]; first | done | exact rfl)); (focus (simp only [go_sem, distOf, e]; first | done | exact rfl))

theorem countF_bnd (g : Dum → Bool) : ∀ (l : List Dum) (n : Int), n ≤ countF g l n ∧ countF g l n ≤ n + l.length
  | [], n => by simp [countF]
  | x :: r, n => by
    unfold countF
    split
    · have := countF_bnd g r (n + 1); simp only [List.length_cons]; omega
    · have := countF_bnd g r n; simp only [List.length_cons]; omega
theorem countF_add (g : Dum → Bool) : ∀ (l : List Dum) (n : Int), countF g l n = n + countF g l 0
  | [], n => by simp [countF]
  | x :: r, n => by
    unfold countF
    split
    · rw [countF_add g r (n + 1), countF_add g r (0 + 1)]; omega
    · rw [countF_add g r n, countF_add g r 0]

set_option maxHeartbeats 4000000 in
theorem p85 (p q : Prc) (d : Dst) (hp : p.ds.length ≤ 1000) (hq : q.ds.length ≤ 1000) (h1 : 0 ≤ d.first) (h2 : d.first < p.ds.length) (h3 : (d.kind = 0 ∨ d.kind = 1) ∨ (d.kind = 2 ∧ 0 ≤ d.second ∧ d.second < p.ds.length)) :
    PPure Try.prog 85 [encP p, encP q, encS d] (.bool (distB p.ds q.ds d)) := by
  obtain ⟨first, hf⟩ := get_dec h1 h2
  simp only [encP, encS]
  by_cases kd0 : d.kind = 0
  · cases hel : first.elem with
    | true =>
      have e : distB p.ds q.ds d = false := by simp only [distB, hf, kd0, if_true, hel]; rfl
      (refine ppure_of_T ok85 (by simp only [List.length_cons, List.length_nil]; decide) ?_; refine t_seq ?_)
      (have hNE := True.intro; have hC := True.intro; repeat' first
          | with_reducible refine k_seq ?_
          | with_reducible refine t_seq ?_
          | with_reducible refine t_reg ?_
          | with_reducible refine t_nil ?_
          | with_reducible refine t_skip ?_
          | with_reducible refine t_ret ?_
          | with_reducible refine k_seq_ret ?_
          | ((with_reducible apply te_val); exact rfl; (intro _ _ _ h; cases h); (focus (simp only [go_sem, hNE, h1, h2, hf, kd0, hel, encD]; first | done | exact rfl)))
          | ((with_reducible apply te_gval); exact rfl; (focus (simp only [go_sem, hNE, h1, h2, hf, kd0, hel, encD]; first | done | exact rfl)); exact rfl; (intro _ _ _ h; cases h); (focus (intro hG; simp only [go_sem, hNE, h1, h2, hf, kd0, hel, encD, hG]; first | done | exact rfl)))
          | ((with_reducible apply te_box); (focus (simp only [go_sem, hNE, h1, h2, hf, kd0, hel, encD]; first | done | exact rfl)); exact rfl; (focus (simp only [go_sem, hNE, h1, h2, hf, kd0, hel, encD]; first | done | exact rfl)))
          | ((with_reducible apply te_alloc); (focus (simp only [go_sem, hNE, h1, h2, hf, kd0, hel, encD]; first | done | exact rfl)); exact rfl; exact rfl; (intro la ha hn1; have hNE := And.intro hNE hn1))
          | ((with_reducible apply te_store); (focus (simp only [go_sem, hNE, h1, h2, hf, kd0, hel, encD]; first | done | exact rfl)); (focus (simp only [go_sem, hNE, h1, h2, hf, kd0, hel, encD]; first | done | exact rfl)); (focus (simp only [go_sem, hNE, h1, h2, hf, kd0, hel, encD]; first | done | exact rfl)); (focus (simp only [go_sem, hNE, h1, h2, hf, kd0, hel, encD]; first | done | exact rfl)); (focus (simp only [go_sem, hNE, h1, h2, hf, kd0, hel, encD]; first | done | exact rfl)); (focus (simp only [go_sem, hNE, h1, h2, hf, kd0, hel, encD]; first | done | exact rfl)))
          | ((with_reducible apply t_cond); (focus (simp only [go_sem, hNE, h1, h2, hf, kd0, hel, encD]; first | done | exact rfl)))
          | (with_reducible intro hc; with_reducible exact Bool.noConfusion hc)
          | (with_reducible intro hc; have hC := And.intro hC hc))
      (first | apply pend rs85 | apply pendN rs85); (focus (simp only [go_sem, e]; first | done | exact rfl)); (focus (simp only [go_sem, e]; first | done | exact rfl))
    | false =>
      have e : distB p.ds q.ds d = decide (countF (g2 first) q.ds 0 < countF (g1 first) p.ds 0) := by simp only [distB, hf, kd0, if_true, hel]; rfl
      (refine ppure_of_T ok85 (by simp only [List.length_cons, List.length_nil]; decide) ?_; refine t_seq ?_)
      (have hNE := True.intro; have hC := True.intro; repeat' first
          | with_reducible refine k_seq ?_
          | with_reducible refine t_seq ?_
          | with_reducible refine t_reg ?_
          | with_reducible refine t_nil ?_
          | with_reducible refine t_skip ?_
          | with_reducible refine t_block ?_
          | ((with_reducible apply te_val); exact rfl; (intro _ _ _ h; cases h); (focus (simp only [go_sem, hNE, h1, h2, hf, kd0, hel, encD]; first | done | exact rfl)))
          | ((with_reducible apply te_gval); exact rfl; (focus (simp only [go_sem, hNE, h1, h2, hf, kd0, hel, encD]; first | done | exact rfl)); exact rfl; (intro _ _ _ h; cases h); (focus (intro hG; simp only [go_sem, hNE, h1, h2, hf, kd0, hel, encD, hG]; first | done | exact rfl)))
          | ((with_reducible apply te_box); (focus (simp only [go_sem, hNE, h1, h2, hf, kd0, hel, encD]; first | done | exact rfl)); exact rfl; (focus (simp only [go_sem, hNE, h1, h2, hf, kd0, hel, encD]; first | done | exact rfl)))
          | ((with_reducible apply te_alloc); (focus (simp only [go_sem, hNE, h1, h2, hf, kd0, hel, encD]; first | done | exact rfl)); exact rfl; exact rfl; (intro la ha hn1; have hNE := And.intro hNE hn1))
          | ((with_reducible apply te_store); (focus (simp only [go_sem, hNE, h1, h2, hf, kd0, hel, encD]; first | done | exact rfl)); (focus (simp only [go_sem, hNE, h1, h2, hf, kd0, hel, encD]; first | done | exact rfl)); (focus (simp only [go_sem, hNE, h1, h2, hf, kd0, hel, encD]; first | done | exact rfl)); (focus (simp only [go_sem, hNE, h1, h2, hf, kd0, hel, encD]; first | done | exact rfl)); (focus (simp only [go_sem, hNE, h1, h2, hf, kd0, hel, encD]; first | done | exact rfl)); (focus (simp only [go_sem, hNE, h1, h2, hf, kd0, hel, encD]; first | done | exact rfl)))
          | ((with_reducible apply t_cond); (focus (simp only [go_sem, hNE, h1, h2, hf, kd0, hel, encD]; first | done | exact rfl)))
          | (with_reducible intro hc; with_reducible exact Bool.noConfusion hc)
          | (with_reducible intro hc; have hC := And.intro hC hc))
      refine t_loopE (fun (k0 : Nat) (E0 : Nat → PV) (H0 : Hp) => ∃ (i : Nat) (n : Nat), i + k0 = p.ds.length ∧ countF (g1 first) (p.ds.drop i) (n : Int) = countF (g1 first) p.ds 0 ∧ n ≤ i ∧ H0 la = some (.row true 6 [encD first]) ∧ E0 12 = .int .i64 (n : Int) ∧ E0 13 = .int .i64 i) (p.ds.length) ⟨0, 0, (by first | omega | rfl | assumption | (simp only [go_sem, hf, cast0, encD, kd0, hel]; first | done | rfl | assumption | omega)), (by first | omega | rfl | assumption | (simp only [go_sem, hf, cast0, encD, kd0, hel]; first | done | rfl | assumption | omega)), (by first | omega | rfl | assumption | (simp only [go_sem, hf, cast0, encD, kd0, hel]; first | done | rfl | assumption | omega)), (by first | omega | rfl | assumption | (simp only [go_sem, hf, cast0, encD, kd0, hel]; first | done | rfl | assumption | omega)), (by simp only [go_sem, hf, cast0, encD, kd0, hel]; first | done | rfl), (by simp only [go_sem, hf, cast0, encD, kd0, hel]; first | done | rfl)⟩ ?_
      rintro k0 E0 H0 hfr0 ⟨i, n, hk, hr, hn, hz0, h0_12, h0_13⟩
      have e0_3 := hfr0 3 rfl; have e0_4 := hfr0 4 rfl; have e0_5 := hfr0 5 rfl; have e0_6 := hfr0 6 rfl; have e0_7 := hfr0 7 rfl
      simp only [go_sem, hf, cast0, encD, kd0, hel] at e0_3 e0_4 e0_5 e0_6 e0_7
      clear hfr0
      by_cases hi : i < p.ds.length
      · obtain ⟨x, hx, hdr⟩ := at_list hi
        have hlt := lt_int hi
        have hw := wrap_next hi hp
        have hw2 : IntKind.i64.wrap ((n : Int) + 1) = ((n + 1 : Nat) : Int) := by rw [IntKind.wrap_i64]; omega
        have hle := Int.le_of_lt hlt
        rw [hdr, countF] at hr
        (have hA := And.intro e0_3 (And.intro e0_4 (And.intro e0_5 (And.intro e0_6 (And.intro e0_7 (And.intro h0_12 (And.intro h0_13 (hz0))))))); have hNE := True.intro; have hC := True.intro; repeat' first
            | with_reducible refine k_seq ?_
            | with_reducible refine t_seq ?_
            | with_reducible refine t_reg ?_
            | with_reducible refine t_nil ?_
            | with_reducible refine t_skip ?_
            | with_reducible refine k_blk ?_
            | with_reducible refine t_block ?_
            | ((with_reducible apply te_val); exact rfl; (intro _ _ _ h; cases h); (focus (simp only [go_sem, hNE, hA, hlt, hle, hx, hw, encD, kd0, hel, e_58]; first | done | exact rfl)))
            | ((with_reducible apply te_gval); exact rfl; (focus (simp only [go_sem, hNE, hA, hlt, hle, hx, hw, encD, kd0, hel, e_58]; first | done | exact rfl)); exact rfl; (intro _ _ _ h; cases h); (focus (intro hG; simp only [go_sem, hNE, hA, hlt, hle, hx, hw, encD, kd0, hel, e_58, hG]; first | done | exact rfl)))
            | ((with_reducible apply te_gno2); exact rfl; (focus (simp only [go_sem, hNE, hA, hlt, hle, hx, hw, encD, kd0, hel, e_58]; first | done | exact rfl)); exact rfl)
            | ((with_reducible apply te_alloc); (focus (simp only [go_sem, hNE, hA, hlt, hle, hx, hw, encD, kd0, hel, e_58]; first | done | exact rfl)); exact rfl; exact rfl; (intro la ha hn1; have hNE := And.intro hNE hn1))
            | ((with_reducible apply te_store); (focus (simp only [go_sem, hNE, hA, hlt, hle, hx, hw, encD, kd0, hel, e_58]; first | done | exact rfl)); (focus (simp only [go_sem, hNE, hA, hlt, hle, hx, hw, encD, kd0, hel, e_58]; first | done | exact rfl)); (focus (simp only [go_sem, hNE, hA, hlt, hle, hx, hw, encD, kd0, hel, e_58]; first | done | exact rfl)); (focus (simp only [go_sem, hNE, hA, hlt, hle, hx, hw, encD, kd0, hel, e_58]; first | done | exact rfl)); (focus (simp only [go_sem, hNE, hA, hlt, hle, hx, hw, encD, kd0, hel, e_58]; first | done | exact rfl)); (focus (simp only [go_sem, hNE, hA, hlt, hle, hx, hw, encD, kd0, hel, e_58]; first | done | exact rfl)))
            | ((with_reducible apply t_cond); (focus (simp only [go_sem, hNE, hA, hlt, hle, hx, hw, encD, kd0, hel, e_58]; first | done | exact rfl)))
            | (with_reducible intro hc; with_reducible exact Bool.noConfusion hc)
            | (with_reducible intro hc; have hC := And.intro hC hc))
        · have e : g1 first x = true := by simpa [g1, ← feq, Bool.and_assoc] using hC
          rw [if_pos e] at hr
          refine k_invE (k0 - 1) (by omega) ⟨i + 1, n + 1, (by omega), ?_, ?_, (by simp only [go_sem, e0_3, e0_4, e0_5, e0_6, e0_7, h0_12, h0_13, hz0, hw, hw2, encD, hNE]; first | done | rfl), (by simp only [go_sem, e0_3, e0_4, e0_5, e0_6, e0_7, h0_12, h0_13, hz0, hw, hw2, encD]; first | done | rfl), (by simp only [go_sem, e0_3, e0_4, e0_5, e0_6, e0_7, h0_12, h0_13, hz0, hw, hw2, encD]; first | done | rfl)⟩
          · exact hr
          · omega
        · have e : g1 first x = false := by simpa [g1, ← feq, Bool.and_assoc] using hC
          rw [if_neg (by rw [e]; decide)] at hr
          refine k_invE (k0 - 1) (by omega) ⟨i + 1, n, (by omega), ?_, ?_, (by simp only [go_sem, e0_3, e0_4, e0_5, e0_6, e0_7, h0_12, h0_13, hz0, hw, encD, hNE]; first | done | rfl), (by simp only [go_sem, e0_3, e0_4, e0_5, e0_6, e0_7, h0_12, h0_13, hz0, hw, encD]; first | done | rfl), (by simp only [go_sem, e0_3, e0_4, e0_5, e0_6, e0_7, h0_12, h0_13, hz0, hw, encD]; first | done | rfl)⟩
          · exact hr
          · omega
      · have hlt := nlt_int hi
        rw [at_end hi, countF] at hr
        (have hA := And.intro e0_3 (And.intro e0_4 (And.intro e0_5 (And.intro e0_6 (And.intro e0_7 (And.intro h0_12 (And.intro h0_13 (hz0))))))); have hNE := True.intro; have hC := True.intro; repeat' first
            | with_reducible refine k_seq ?_
            | with_reducible refine t_seq ?_
            | with_reducible refine t_reg ?_
            | with_reducible refine t_nil ?_
            | with_reducible refine t_exit ?_
            | with_reducible refine k_seq_exit ?_
            | with_reducible refine k_blk_exit ?_
            | with_reducible refine k_invE_exit ?_
            | with_reducible refine t_block ?_
            | ((with_reducible apply te_val); exact rfl; (intro _ _ _ h; cases h); (focus (simp only [go_sem, hNE, hA, hlt, encD, kd0, hel]; first | done | exact rfl)))
            | ((with_reducible apply t_cond); (focus (simp only [go_sem, hNE, hA, hlt, encD, kd0, hel]; first | done | exact rfl)))
            | (with_reducible intro hc; with_reducible exact Bool.noConfusion hc)
            | (with_reducible intro hc; have hC := And.intro hC hc))
        refine t_loopE (fun (k2 : Nat) (E2 : Nat → PV) (H2 : Hp) => ∃ (i : Nat) (m : Nat), i + k2 = q.ds.length ∧ countF (g2 first) (q.ds.drop i) (m : Int) = countF (g2 first) q.ds 0 ∧ m ≤ i ∧ H2 la = some (.row true 6 [encD first]) ∧ E2 12 = .int .i64 ((n : Int) - (m : Int)) ∧ E2 15 = .int .i64 i) (q.ds.length) ⟨0, 0, (by first | omega | rfl | assumption | (simp only [go_sem, e0_3, e0_4, e0_5, e0_6, e0_7, h0_12, h0_13, hz0, hlt, cast0, encD, kd0, hel, Int.sub_zero]; first | done | rfl | assumption | omega)), (by first | omega | rfl | assumption | (simp only [go_sem, e0_3, e0_4, e0_5, e0_6, e0_7, h0_12, h0_13, hz0, hlt, cast0, encD, kd0, hel, Int.sub_zero]; first | done | rfl | assumption | omega)), (by first | omega | rfl | assumption | (simp only [go_sem, e0_3, e0_4, e0_5, e0_6, e0_7, h0_12, h0_13, hz0, hlt, cast0, encD, kd0, hel, Int.sub_zero]; first | done | rfl | assumption | omega)), (by first | omega | rfl | assumption | (simp only [go_sem, e0_3, e0_4, e0_5, e0_6, e0_7, h0_12, h0_13, hz0, hlt, cast0, encD, kd0, hel, Int.sub_zero]; first | done | rfl | assumption | omega)), (by simp only [go_sem, e0_3, e0_4, e0_5, e0_6, e0_7, h0_12, h0_13, hz0, hlt, cast0, encD, kd0, hel, Int.sub_zero]; first | done | rfl), (by simp only [go_sem, e0_3, e0_4, e0_5, e0_6, e0_7, h0_12, h0_13, hz0, hlt, cast0, encD, kd0, hel, Int.sub_zero]; first | done | rfl)⟩ ?_
        rintro k2 E2 H2 hfr2 ⟨i, m, hk2, hr2, hm, hz2, h2_12, h2_15⟩
        have e2_4 := hfr2 4 rfl; have e2_5 := hfr2 5 rfl; have e2_6 := hfr2 6 rfl; have e2_7 := hfr2 7 rfl
        simp only [go_sem, e0_3, e0_4, e0_5, e0_6, e0_7, h0_12, h0_13, hz0, hlt, cast0, encD, kd0, hel, Int.sub_zero] at e2_4 e2_5 e2_6 e2_7
        clear hfr2
        by_cases hi : i < q.ds.length
        · obtain ⟨x, hx, hdr⟩ := at_list hi
          have hlt := lt_int hi
          have hw := wrap_next hi hq
          have hw2 : IntKind.i64.wrap ((n : Int) - (m : Int) - 1) = (n : Int) - ((m + 1 : Nat) : Int) := by rw [IntKind.wrap_i64]; omega
          have hle := Int.le_of_lt hlt
          rw [hdr, countF] at hr2
          (have hA := And.intro e0_3 (And.intro e0_4 (And.intro e0_5 (And.intro e0_6 (And.intro e0_7 (And.intro h0_12 (And.intro h0_13 (And.intro hz0 (And.intro e2_4 (And.intro e2_5 (And.intro e2_6 (And.intro e2_7 (And.intro h2_12 (And.intro h2_15 (hz2)))))))))))))); have hNE := True.intro; have hC := True.intro; repeat' first
              | with_reducible refine k_seq ?_
              | with_reducible refine t_seq ?_
              | with_reducible refine t_reg ?_
              | with_reducible refine t_nil ?_
              | with_reducible refine t_skip ?_
              | with_reducible refine k_blk ?_
              | with_reducible refine t_block ?_
              | ((with_reducible apply te_val); exact rfl; (intro _ _ _ h; cases h); (focus (simp only [go_sem, hNE, hA, hlt, hle, hx, hw, encD, kd0, hel, encF]; first | done | exact rfl)))
              | ((with_reducible apply te_gval); exact rfl; (focus (simp only [go_sem, hNE, hA, hlt, hle, hx, hw, encD, kd0, hel, encF]; first | done | exact rfl)); exact rfl; (intro _ _ _ h; cases h); (focus (intro hG; simp only [go_sem, hNE, hA, hlt, hle, hx, hw, encD, kd0, hel, encF, hG]; first | done | exact rfl)))
              | ((with_reducible apply te_gcallS); exact rfl; (focus (simp only [go_sem, hNE, hA, hlt, hle, hx, hw, encD, kd0, hel, encF]; first | done | exact rfl)); (focus (simp only [go_sem, hNE, hA, hlt, hle, hx, hw, encD, kd0, hel, encF]; first | done | exact rfl)); (focus (intro hG; simp only [go_sem, hNE, hA, hlt, hle, hx, hw, encD, kd0, hel, encF, hG]; first | done | exact rfl)); (focus (simp only [go_sem, hNE, hA, hlt, hle, hx, hw, encD, kd0, hel, encF]; done)); (intro hG; first | exact p79 x first | exact p80 x first.f))
              | ((with_reducible apply te_gno2); exact rfl; (focus (simp only [go_sem, hNE, hA, hlt, hle, hx, hw, encD, kd0, hel, encF]; first | done | exact rfl)); exact rfl)
              | ((with_reducible apply te_alloc); (focus (simp only [go_sem, hNE, hA, hlt, hle, hx, hw, encD, kd0, hel, encF]; first | done | exact rfl)); exact rfl; exact rfl; (intro la ha hn1; have hNE := And.intro hNE hn1))
              | ((with_reducible apply te_store); (focus (simp only [go_sem, hNE, hA, hlt, hle, hx, hw, encD, kd0, hel, encF]; first | done | exact rfl)); (focus (simp only [go_sem, hNE, hA, hlt, hle, hx, hw, encD, kd0, hel, encF]; first | done | exact rfl)); (focus (simp only [go_sem, hNE, hA, hlt, hle, hx, hw, encD, kd0, hel, encF]; first | done | exact rfl)); (focus (simp only [go_sem, hNE, hA, hlt, hle, hx, hw, encD, kd0, hel, encF]; first | done | exact rfl)); (focus (simp only [go_sem, hNE, hA, hlt, hle, hx, hw, encD, kd0, hel, encF]; first | done | exact rfl)); (focus (simp only [go_sem, hNE, hA, hlt, hle, hx, hw, encD, kd0, hel, encF]; first | done | exact rfl)))
              | ((with_reducible apply t_cond); (focus (simp only [go_sem, hNE, hA, hlt, hle, hx, hw, encD, kd0, hel, encF]; first | done | exact rfl)))
              | (with_reducible intro hc; with_reducible exact Bool.noConfusion hc)
              | (with_reducible intro hc; have hC := And.intro hC hc))
          · have e : g2 first x = true := by simpa [g2] using hC
            rw [if_pos e] at hr2
            refine k_invE (k2 - 1) (by omega) ⟨i + 1, m + 1, (by omega), ?_, ?_, (by simp only [go_sem, e0_3, e0_4, e0_5, e0_6, e0_7, h0_12, h0_13, hz0, e2_4, e2_5, e2_6, e2_7, h2_12, h2_15, hz2, hw, hw2, encD, hNE]; first | done | rfl), (by simp only [go_sem, e0_3, e0_4, e0_5, e0_6, e0_7, h0_12, h0_13, hz0, e2_4, e2_5, e2_6, e2_7, h2_12, h2_15, hz2, hw, hw2, encD]; first | done | rfl), (by simp only [go_sem, e0_3, e0_4, e0_5, e0_6, e0_7, h0_12, h0_13, hz0, e2_4, e2_5, e2_6, e2_7, h2_12, h2_15, hz2, hw, hw2, encD]; first | done | rfl)⟩
            · exact hr2
            · omega
          · have e : g2 first x = false := by simpa [g2] using hC
            rw [if_neg (by rw [e]; decide)] at hr2
            refine k_invE (k2 - 1) (by omega) ⟨i + 1, m, (by omega), ?_, ?_, (by simp only [go_sem, e0_3, e0_4, e0_5, e0_6, e0_7, h0_12, h0_13, hz0, e2_4, e2_5, e2_6, e2_7, h2_12, h2_15, hz2, hw, encD, hNE]; first | done | rfl), (by simp only [go_sem, e0_3, e0_4, e0_5, e0_6, e0_7, h0_12, h0_13, hz0, e2_4, e2_5, e2_6, e2_7, h2_12, h2_15, hz2, hw, encD]; first | done | rfl), (by simp only [go_sem, e0_3, e0_4, e0_5, e0_6, e0_7, h0_12, h0_13, hz0, e2_4, e2_5, e2_6, e2_7, h2_12, h2_15, hz2, hw, encD]; first | done | rfl)⟩
            · exact hr2
            · omega
        · have hlt := nlt_int hi
          rw [at_end hi, countF] at hr2
          have ee : decide (0 < (n : Int) - (m : Int)) = decide (countF (g2 first) q.ds 0 < countF (g1 first) p.ds 0) := by rw [← hr, ← hr2]; congr 1; rw [eq_iff_iff]; omega
          (have hA := And.intro e0_3 (And.intro e0_4 (And.intro e0_5 (And.intro e0_6 (And.intro e0_7 (And.intro h0_12 (And.intro h0_13 (And.intro hz0 (And.intro e2_4 (And.intro e2_5 (And.intro e2_6 (And.intro e2_7 (And.intro h2_12 (And.intro h2_15 (hz2)))))))))))))); have hNE := True.intro; have hC := True.intro; repeat' first
              | with_reducible refine k_seq ?_
              | with_reducible refine t_seq ?_
              | with_reducible refine t_reg ?_
              | with_reducible refine t_nil ?_
              | with_reducible refine t_ret ?_
              | with_reducible refine t_exit ?_
              | with_reducible refine k_seq_exit ?_
              | with_reducible refine k_blk_exit ?_
              | with_reducible refine k_invE_exit ?_
              | ((with_reducible apply te_val); exact rfl; (intro _ _ _ h; cases h); (focus (simp only [go_sem, hNE, hA, hlt, kd0, hel]; first | done | exact rfl)))
              | ((with_reducible apply t_cond); (focus (simp only [go_sem, hNE, hA, hlt, kd0, hel]; first | done | exact rfl)))
              | (with_reducible intro hc; with_reducible exact Bool.noConfusion hc)
              | (with_reducible intro hc; have hC := And.intro hC hc))
          rw [e, ← ee]
          (first | apply pend rs85 | apply pendN rs85); (focus (simp only [go_sem, e0_3, e0_4, e0_5, e0_6, e0_7, h0_12, h0_13, hz0, e2_4, e2_5, e2_6, e2_7, h2_12, h2_15, hz2]; first | done | exact rfl)); (focus (simp only [go_sem, e0_3, e0_4, e0_5, e0_6, e0_7, h0_12, h0_13, hz0, e2_4, e2_5, e2_6, e2_7, h2_12, h2_15, hz2]; first | done | exact rfl))
  · by_cases kd1 : d.kind = 1
    · have e : distB p.ds q.ds d = decide (countF (g4 first) q.ds 0 < countF (g3 first) p.ds 0) := by simp only [distB, hf, kd0, kd1, if_true, if_false]; rfl
      (refine ppure_of_T ok85 (by simp only [List.length_cons, List.length_nil]; decide) ?_; refine t_seq ?_)
      (have hNE := True.intro; have hC := True.intro; repeat' first
          | with_reducible refine k_seq ?_
          | with_reducible refine t_seq ?_
          | with_reducible refine t_reg ?_
          | with_reducible refine t_nil ?_
          | with_reducible refine t_skip ?_
          | with_reducible refine t_block ?_
          | ((with_reducible apply te_val); exact rfl; (intro _ _ _ h; cases h); (focus (simp only [go_sem, hNE, h1, h2, hf, kd1, encD]; first | done | exact rfl)))
          | ((with_reducible apply te_gval); exact rfl; (focus (simp only [go_sem, hNE, h1, h2, hf, kd1, encD]; first | done | exact rfl)); exact rfl; (intro _ _ _ h; cases h); (focus (intro hG; simp only [go_sem, hNE, h1, h2, hf, kd1, encD, hG]; first | done | exact rfl)))
          | ((with_reducible apply te_box); (focus (simp only [go_sem, hNE, h1, h2, hf, kd1, encD]; first | done | exact rfl)); exact rfl; (focus (simp only [go_sem, hNE, h1, h2, hf, kd1, encD]; first | done | exact rfl)))
          | ((with_reducible apply te_alloc); (focus (simp only [go_sem, hNE, h1, h2, hf, kd1, encD]; first | done | exact rfl)); exact rfl; exact rfl; (intro la ha hn1; have hNE := And.intro hNE hn1))
          | ((with_reducible apply te_store); (focus (simp only [go_sem, hNE, h1, h2, hf, kd1, encD]; first | done | exact rfl)); (focus (simp only [go_sem, hNE, h1, h2, hf, kd1, encD]; first | done | exact rfl)); (focus (simp only [go_sem, hNE, h1, h2, hf, kd1, encD]; first | done | exact rfl)); (focus (simp only [go_sem, hNE, h1, h2, hf, kd1, encD]; first | done | exact rfl)); (focus (simp only [go_sem, hNE, h1, h2, hf, kd1, encD]; first | done | exact rfl)); (focus (simp only [go_sem, hNE, h1, h2, hf, kd1, encD]; first | done | exact rfl)))
          | ((with_reducible apply t_cond); (focus (simp only [go_sem, hNE, h1, h2, hf, kd1, encD]; first | done | exact rfl)))
          | (with_reducible intro hc; with_reducible exact Bool.noConfusion hc)
          | (with_reducible intro hc; have hC := And.intro hC hc))
      refine t_loopE (fun (k0 : Nat) (E0 : Nat → PV) (H0 : Hp) => ∃ (i : Nat) (n : Nat), i + k0 = p.ds.length ∧ countF (g3 first) (p.ds.drop i) (n : Int) = countF (g3 first) p.ds 0 ∧ n ≤ i ∧ H0 la = some (.row true 6 [encD first]) ∧ E0 12 = .int .i64 (n : Int) ∧ E0 13 = .int .i64 i) (p.ds.length) ⟨0, 0, (by first | omega | rfl | assumption | (simp only [go_sem, hf, cast0, encD, kd1]; first | done | rfl | assumption | omega)), (by first | omega | rfl | assumption | (simp only [go_sem, hf, cast0, encD, kd1]; first | done | rfl | assumption | omega)), (by first | omega | rfl | assumption | (simp only [go_sem, hf, cast0, encD, kd1]; first | done | rfl | assumption | omega)), (by first | omega | rfl | assumption | (simp only [go_sem, hf, cast0, encD, kd1]; first | done | rfl | assumption | omega)), (by simp only [go_sem, hf, cast0, encD, kd1]; first | done | rfl), (by simp only [go_sem, hf, cast0, encD, kd1]; first | done | rfl)⟩ ?_
      rintro k0 E0 H0 hfr0 ⟨i, n, hk, hr, hn, hz0, h0_12, h0_13⟩
      have e0_3 := hfr0 3 rfl; have e0_4 := hfr0 4 rfl; have e0_5 := hfr0 5 rfl; have e0_6 := hfr0 6 rfl; have e0_7 := hfr0 7 rfl
      simp only [go_sem, hf, cast0, encD, kd1] at e0_3 e0_4 e0_5 e0_6 e0_7
      clear hfr0
      by_cases hi : i < p.ds.length
      · obtain ⟨x, hx, hdr⟩ := at_list hi
        have hlt := lt_int hi
        have hw := wrap_next hi hp
        have hw2 : IntKind.i64.wrap ((n : Int) + 1) = ((n + 1 : Nat) : Int) := by rw [IntKind.wrap_i64]; omega
        have hle := Int.le_of_lt hlt
        rw [hdr, countF] at hr
        (have hA := And.intro e0_3 (And.intro e0_4 (And.intro e0_5 (And.intro e0_6 (And.intro e0_7 (And.intro h0_12 (And.intro h0_13 (hz0))))))); have hNE := True.intro; have hC := True.intro; repeat' first
            | with_reducible refine k_seq ?_
            | with_reducible refine t_seq ?_
            | with_reducible refine t_reg ?_
            | with_reducible refine t_nil ?_
            | with_reducible refine t_skip ?_
            | with_reducible refine k_blk ?_
            | with_reducible refine t_block ?_
            | ((with_reducible apply te_val); exact rfl; (intro _ _ _ h; cases h); (focus (simp only [go_sem, hNE, hA, hlt, hle, hx, hw, encD, kd1, e_58]; first | done | exact rfl)))
            | ((with_reducible apply te_gval); exact rfl; (focus (simp only [go_sem, hNE, hA, hlt, hle, hx, hw, encD, kd1, e_58]; first | done | exact rfl)); exact rfl; (intro _ _ _ h; cases h); (focus (intro hG; simp only [go_sem, hNE, hA, hlt, hle, hx, hw, encD, kd1, e_58, hG]; first | done | exact rfl)))
            | ((with_reducible apply te_gcallS); exact rfl; (focus (simp only [go_sem, hNE, hA, hlt, hle, hx, hw, encD, kd1, e_58]; first | done | exact rfl)); (focus (simp only [go_sem, hNE, hA, hlt, hle, hx, hw, encD, kd1, e_58]; first | done | exact rfl)); (focus (intro hG; simp only [go_sem, hNE, hA, hlt, hle, hx, hw, encD, kd1, e_58, hG]; first | done | exact rfl)); (focus (simp only [go_sem, hNE, hA, hlt, hle, hx, hw, encD, kd1, e_58]; done)); (intro hG; first | exact p79 x first))
            | ((with_reducible apply te_gno); exact rfl; (focus (simp only [go_sem, hNE, hA, hlt, hle, hx, hw, encD, kd1, e_58]; first | done | exact rfl)); exact rfl)
            | ((with_reducible apply te_alloc); (focus (simp only [go_sem, hNE, hA, hlt, hle, hx, hw, encD, kd1, e_58]; first | done | exact rfl)); exact rfl; exact rfl; (intro la ha hn1; have hNE := And.intro hNE hn1))
            | ((with_reducible apply te_store); (focus (simp only [go_sem, hNE, hA, hlt, hle, hx, hw, encD, kd1, e_58]; first | done | exact rfl)); (focus (simp only [go_sem, hNE, hA, hlt, hle, hx, hw, encD, kd1, e_58]; first | done | exact rfl)); (focus (simp only [go_sem, hNE, hA, hlt, hle, hx, hw, encD, kd1, e_58]; first | done | exact rfl)); (focus (simp only [go_sem, hNE, hA, hlt, hle, hx, hw, encD, kd1, e_58]; first | done | exact rfl)); (focus (simp only [go_sem, hNE, hA, hlt, hle, hx, hw, encD, kd1, e_58]; first | done | exact rfl)); (focus (simp only [go_sem, hNE, hA, hlt, hle, hx, hw, encD, kd1, e_58]; first | done | exact rfl)))
            | ((with_reducible apply t_cond); (focus (simp only [go_sem, hNE, hA, hlt, hle, hx, hw, encD, kd1, e_58]; first | done | exact rfl)))
            | (with_reducible intro hc; with_reducible exact Bool.noConfusion hc)
            | (with_reducible intro hc; have hC := And.intro hC hc))
        · have e : g3 first x = true := by simpa [g3, ← feq, Bool.and_assoc] using hC
          rw [if_pos e] at hr
          refine k_invE (k0 - 1) (by omega) ⟨i + 1, n + 1, (by omega), ?_, ?_, (by simp only [go_sem, e0_3, e0_4, e0_5, e0_6, e0_7, h0_12, h0_13, hz0, hw, hw2, encD, hNE]; first | done | rfl), (by simp only [go_sem, e0_3, e0_4, e0_5, e0_6, e0_7, h0_12, h0_13, hz0, hw, hw2, encD]; first | done | rfl), (by simp only [go_sem, e0_3, e0_4, e0_5, e0_6, e0_7, h0_12, h0_13, hz0, hw, hw2, encD]; first | done | rfl)⟩
          · exact hr
          · omega
        · have e : g3 first x = false := by simpa [g3, ← feq, Bool.and_assoc] using hC
          rw [if_neg (by rw [e]; decide)] at hr
          refine k_invE (k0 - 1) (by omega) ⟨i + 1, n, (by omega), ?_, ?_, (by simp only [go_sem, e0_3, e0_4, e0_5, e0_6, e0_7, h0_12, h0_13, hz0, hw, encD, hNE]; first | done | rfl), (by simp only [go_sem, e0_3, e0_4, e0_5, e0_6, e0_7, h0_12, h0_13, hz0, hw, encD]; first | done | rfl), (by simp only [go_sem, e0_3, e0_4, e0_5, e0_6, e0_7, h0_12, h0_13, hz0, hw, encD]; first | done | rfl)⟩
          · exact hr
          · omega
      · have hlt := nlt_int hi
        rw [at_end hi, countF] at hr
        (have hA := And.intro e0_3 (And.intro e0_4 (And.intro e0_5 (And.intro e0_6 (And.intro e0_7 (And.intro h0_12 (And.intro h0_13 (hz0))))))); have hNE := True.intro; have hC := True.intro; repeat' first
            | with_reducible refine k_seq ?_
            | with_reducible refine t_seq ?_
            | with_reducible refine t_reg ?_
            | with_reducible refine t_nil ?_
            | with_reducible refine t_exit ?_
            | with_reducible refine k_seq_exit ?_
            | with_reducible refine k_blk_exit ?_
            | with_reducible refine k_invE_exit ?_
            | with_reducible refine t_block ?_
            | ((with_reducible apply te_val); exact rfl; (intro _ _ _ h; cases h); (focus (simp only [go_sem, hNE, hA, hlt, encD, kd1]; first | done | exact rfl)))
            | ((with_reducible apply t_cond); (focus (simp only [go_sem, hNE, hA, hlt, encD, kd1]; first | done | exact rfl)))
            | (with_reducible intro hc; with_reducible exact Bool.noConfusion hc)
            | (with_reducible intro hc; have hC := And.intro hC hc))
        refine t_loopE (fun (k2 : Nat) (E2 : Nat → PV) (H2 : Hp) => ∃ (i : Nat) (m : Nat), i + k2 = q.ds.length ∧ countF (g4 first) (q.ds.drop i) (m : Int) = countF (g4 first) q.ds 0 ∧ m ≤ i ∧ H2 la = some (.row true 6 [encD first]) ∧ E2 12 = .int .i64 ((n : Int) - (m : Int)) ∧ E2 15 = .int .i64 i) (q.ds.length) ⟨0, 0, (by first | omega | rfl | assumption | (simp only [go_sem, e0_3, e0_4, e0_5, e0_6, e0_7, h0_12, h0_13, hz0, hlt, cast0, encD, kd1, Int.sub_zero]; first | done | rfl | assumption | omega)), (by first | omega | rfl | assumption | (simp only [go_sem, e0_3, e0_4, e0_5, e0_6, e0_7, h0_12, h0_13, hz0, hlt, cast0, encD, kd1, Int.sub_zero]; first | done | rfl | assumption | omega)), (by first | omega | rfl | assumption | (simp only [go_sem, e0_3, e0_4, e0_5, e0_6, e0_7, h0_12, h0_13, hz0, hlt, cast0, encD, kd1, Int.sub_zero]; first | done | rfl | assumption | omega)), (by first | omega | rfl | assumption | (simp only [go_sem, e0_3, e0_4, e0_5, e0_6, e0_7, h0_12, h0_13, hz0, hlt, cast0, encD, kd1, Int.sub_zero]; first | done | rfl | assumption | omega)), (by simp only [go_sem, e0_3, e0_4, e0_5, e0_6, e0_7, h0_12, h0_13, hz0, hlt, cast0, encD, kd1, Int.sub_zero]; first | done | rfl), (by simp only [go_sem, e0_3, e0_4, e0_5, e0_6, e0_7, h0_12, h0_13, hz0, hlt, cast0, encD, kd1, Int.sub_zero]; first | done | rfl)⟩ ?_
        rintro k2 E2 H2 hfr2 ⟨i, m, hk2, hr2, hm, hz2, h2_12, h2_15⟩
        have e2_4 := hfr2 4 rfl; have e2_5 := hfr2 5 rfl; have e2_6 := hfr2 6 rfl; have e2_7 := hfr2 7 rfl
        simp only [go_sem, e0_3, e0_4, e0_5, e0_6, e0_7, h0_12, h0_13, hz0, hlt, cast0, encD, kd1, Int.sub_zero] at e2_4 e2_5 e2_6 e2_7
        clear hfr2
        by_cases hi : i < q.ds.length
        · obtain ⟨x, hx, hdr⟩ := at_list hi
          have hlt := lt_int hi
          have hw := wrap_next hi hq
          have hw2 : IntKind.i64.wrap ((n : Int) - (m : Int) - 1) = (n : Int) - ((m + 1 : Nat) : Int) := by rw [IntKind.wrap_i64]; omega
          have hle := Int.le_of_lt hlt
          rw [hdr, countF] at hr2
          (have hA := And.intro e0_3 (And.intro e0_4 (And.intro e0_5 (And.intro e0_6 (And.intro e0_7 (And.intro h0_12 (And.intro h0_13 (And.intro hz0 (And.intro e2_4 (And.intro e2_5 (And.intro e2_6 (And.intro e2_7 (And.intro h2_12 (And.intro h2_15 (hz2)))))))))))))); have hNE := True.intro; have hC := True.intro; repeat' first
              | with_reducible refine k_seq ?_
              | with_reducible refine t_seq ?_
              | with_reducible refine t_reg ?_
              | with_reducible refine t_nil ?_
              | with_reducible refine t_skip ?_
              | with_reducible refine k_blk ?_
              | with_reducible refine t_block ?_
              | ((with_reducible apply te_val); exact rfl; (intro _ _ _ h; cases h); (focus (simp only [go_sem, hNE, hA, hlt, hle, hx, hw, encD, kd1, encF]; first | done | exact rfl)))
              | ((with_reducible apply te_gval); exact rfl; (focus (simp only [go_sem, hNE, hA, hlt, hle, hx, hw, encD, kd1, encF]; first | done | exact rfl)); exact rfl; (intro _ _ _ h; cases h); (focus (intro hG; simp only [go_sem, hNE, hA, hlt, hle, hx, hw, encD, kd1, encF, hG]; first | done | exact rfl)))
              | ((with_reducible apply te_gcallS); exact rfl; (focus (simp only [go_sem, hNE, hA, hlt, hle, hx, hw, encD, kd1, encF]; first | done | exact rfl)); (focus (simp only [go_sem, hNE, hA, hlt, hle, hx, hw, encD, kd1, encF]; first | done | exact rfl)); (focus (intro hG; simp only [go_sem, hNE, hA, hlt, hle, hx, hw, encD, kd1, encF, hG]; first | done | exact rfl)); (focus (simp only [go_sem, hNE, hA, hlt, hle, hx, hw, encD, kd1, encF]; done)); (intro hG; first | exact p79 x first | exact p80 x first.f))
              | ((with_reducible apply te_alloc); (focus (simp only [go_sem, hNE, hA, hlt, hle, hx, hw, encD, kd1, encF]; first | done | exact rfl)); exact rfl; exact rfl; (intro la ha hn1; have hNE := And.intro hNE hn1))
              | ((with_reducible apply te_store); (focus (simp only [go_sem, hNE, hA, hlt, hle, hx, hw, encD, kd1, encF]; first | done | exact rfl)); (focus (simp only [go_sem, hNE, hA, hlt, hle, hx, hw, encD, kd1, encF]; first | done | exact rfl)); (focus (simp only [go_sem, hNE, hA, hlt, hle, hx, hw, encD, kd1, encF]; first | done | exact rfl)); (focus (simp only [go_sem, hNE, hA, hlt, hle, hx, hw, encD, kd1, encF]; first | done | exact rfl)); (focus (simp only [go_sem, hNE, hA, hlt, hle, hx, hw, encD, kd1, encF]; first | done | exact rfl)); (focus (simp only [go_sem, hNE, hA, hlt, hle, hx, hw, encD, kd1, encF]; first | done | exact rfl)))
              | ((with_reducible apply t_cond); (focus (simp only [go_sem, hNE, hA, hlt, hle, hx, hw, encD, kd1, encF]; first | done | exact rfl)))
              | (with_reducible intro hc; with_reducible exact Bool.noConfusion hc)
              | (with_reducible intro hc; have hC := And.intro hC hc))
          · have e : g4 first x = true := by simpa [g4] using hC
            rw [if_pos e] at hr2
            refine k_invE (k2 - 1) (by omega) ⟨i + 1, m + 1, (by omega), ?_, ?_, (by simp only [go_sem, e0_3, e0_4, e0_5, e0_6, e0_7, h0_12, h0_13, hz0, e2_4, e2_5, e2_6, e2_7, h2_12, h2_15, hz2, hw, hw2, encD, hNE]; first | done | rfl), (by simp only [go_sem, e0_3, e0_4, e0_5, e0_6, e0_7, h0_12, h0_13, hz0, e2_4, e2_5, e2_6, e2_7, h2_12, h2_15, hz2, hw, hw2, encD]; first | done | rfl), (by simp only [go_sem, e0_3, e0_4, e0_5, e0_6, e0_7, h0_12, h0_13, hz0, e2_4, e2_5, e2_6, e2_7, h2_12, h2_15, hz2, hw, hw2, encD]; first | done | rfl)⟩
            · exact hr2
            · omega
          · have e : g4 first x = false := by simpa [g4] using hC
            rw [if_neg (by rw [e]; decide)] at hr2
            refine k_invE (k2 - 1) (by omega) ⟨i + 1, m, (by omega), ?_, ?_, (by simp only [go_sem, e0_3, e0_4, e0_5, e0_6, e0_7, h0_12, h0_13, hz0, e2_4, e2_5, e2_6, e2_7, h2_12, h2_15, hz2, hw, encD, hNE]; first | done | rfl), (by simp only [go_sem, e0_3, e0_4, e0_5, e0_6, e0_7, h0_12, h0_13, hz0, e2_4, e2_5, e2_6, e2_7, h2_12, h2_15, hz2, hw, encD]; first | done | rfl), (by simp only [go_sem, e0_3, e0_4, e0_5, e0_6, e0_7, h0_12, h0_13, hz0, e2_4, e2_5, e2_6, e2_7, h2_12, h2_15, hz2, hw, encD]; first | done | rfl)⟩
            · exact hr2
            · omega
        · have hlt := nlt_int hi
          rw [at_end hi, countF] at hr2
          have ee : decide (0 < (n : Int) - (m : Int)) = decide (countF (g4 first) q.ds 0 < countF (g3 first) p.ds 0) := by rw [← hr, ← hr2]; congr 1; rw [eq_iff_iff]; omega
          (have hA := And.intro e0_3 (And.intro e0_4 (And.intro e0_5 (And.intro e0_6 (And.intro e0_7 (And.intro h0_12 (And.intro h0_13 (And.intro hz0 (And.intro e2_4 (And.intro e2_5 (And.intro e2_6 (And.intro e2_7 (And.intro h2_12 (And.intro h2_15 (hz2)))))))))))))); have hNE := True.intro; have hC := True.intro; repeat' first
              | with_reducible refine k_seq ?_
              | with_reducible refine t_seq ?_
              | with_reducible refine t_reg ?_
              | with_reducible refine t_nil ?_
              | with_reducible refine t_ret ?_
              | with_reducible refine t_exit ?_
              | with_reducible refine k_seq_exit ?_
              | with_reducible refine k_blk_exit ?_
              | with_reducible refine k_invE_exit ?_
              | ((with_reducible apply te_val); exact rfl; (intro _ _ _ h; cases h); (focus (simp only [go_sem, hNE, hA, hlt, kd1]; first | done | exact rfl)))
              | ((with_reducible apply t_cond); (focus (simp only [go_sem, hNE, hA, hlt, kd1]; first | done | exact rfl)))
              | (with_reducible intro hc; with_reducible exact Bool.noConfusion hc)
              | (with_reducible intro hc; have hC := And.intro hC hc))
          rw [e, ← ee]
          (first | apply pend rs85 | apply pendN rs85); (focus (simp only [go_sem, e0_3, e0_4, e0_5, e0_6, e0_7, h0_12, h0_13, hz0, e2_4, e2_5, e2_6, e2_7, h2_12, h2_15, hz2]; first | done | exact rfl)); (focus (simp only [go_sem, e0_3, e0_4, e0_5, e0_6, e0_7, h0_12, h0_13, hz0, e2_4, e2_5, e2_6, e2_7, h2_12, h2_15, hz2]; first | done | exact rfl))
    · obtain ⟨kd2, h4, h5⟩ : d.kind = 2 ∧ 0 ≤ d.second ∧ d.second < p.ds.length := by omega
      obtain ⟨second, hs⟩ := get_dec h4 h5
      have e : distB p.ds q.ds d = if (first.opt || second.opt || decide (d.second < d.first)) = true then false else
        (decide ((q.ds.length : Int) ≤ d.first) || !compAt first q.ds d.first) && (decide (named q.ds second.name < 0) || !compAt second q.ds (named q.ds second.name)) := by
        simp only [distB, hf, hs, kd0, kd1, if_false]
      by_cases hl : (q.ds.length : Int) ≤ d.first
      · rcases named_le q.ds second.name with hn | ⟨hq1, hq2⟩
        · (refine ppure_of_T ok85 (by simp only [List.length_cons, List.length_nil]; decide) ?_; refine t_seq ?_)
          (have hNE := True.intro; have hC := True.intro; repeat' first
              | ((with_reducible apply te_drwA); (focus (simp only [effFlA, List.map_cons, List.map_nil]; exact rfl)); (focus decide +kernel))
              | with_reducible refine k_seq ?_
              | with_reducible refine t_seq ?_
              | with_reducible refine t_reg ?_
              | with_reducible refine t_nil ?_
              | with_reducible refine t_skip ?_
              | with_reducible refine t_ret ?_
              | with_reducible refine k_seq_ret ?_
              | with_reducible refine m_nil ?_
              | ((with_reducible apply te_val); exact rfl; (intro _ _ _ h; cases h); (focus (simp only [go_sem, hNE, h1, h2, hf, kd2, h4, h5, hs, hl, hn, encD]; first | done | exact rfl)))
              | ((with_reducible apply te_callS); (focus (simp only [go_sem, hNE, h1, h2, hf, kd2, h4, h5, hs, hl, hn, encD]; first | done | exact rfl)); (focus (simp only [go_sem, hNE, h1, h2, hf, kd2, h4, h5, hs, hl, hn, encD]; first | done | exact rfl)); (focus (simp only [go_sem, hNE, h1, h2, hf, kd2, h4, h5, hs, hl, hn, encD]; first | done | exact rfl)); (first | exact p62 q.ds second.name hq))
              | ((with_reducible apply te_gval); exact rfl; (focus (simp only [go_sem, hNE, h1, h2, hf, kd2, h4, h5, hs, hl, hn, encD]; first | done | exact rfl)); exact rfl; (intro _ _ _ h; cases h); (focus (intro hG; simp only [go_sem, hNE, h1, h2, hf, kd2, h4, h5, hs, hl, hn, encD, hG]; first | done | exact rfl)))
              | ((with_reducible apply me_val); exact rfl; (intro _ _ _ h; cases h); (focus (simp only [go_sem, hNE, h1, h2, hf, kd2, h4, h5, hs, hl, hn, encD]; first | done | exact rfl)))
              | ((with_reducible apply me_gval); exact rfl; (focus (simp only [go_sem, hNE, h1, h2, hf, kd2, h4, h5, hs, hl, hn, encD]; first | done | exact rfl)); exact rfl; (intro _ _ _ h; cases h); (focus (intro hG; simp only [go_sem, hNE, h1, h2, hf, kd2, h4, h5, hs, hl, hn, encD, hG]; first | done | exact rfl)))
              | ((with_reducible apply me_gno); exact rfl; (focus (simp only [go_sem, hNE, h1, h2, hf, kd2, h4, h5, hs, hl, hn, encD]; first | done | exact rfl)); exact rfl)
              | ((with_reducible apply te_box); (focus (simp only [go_sem, hNE, h1, h2, hf, kd2, h4, h5, hs, hl, hn, encD]; first | done | exact rfl)); exact rfl; (focus (simp only [go_sem, hNE, h1, h2, hf, kd2, h4, h5, hs, hl, hn, encD]; first | done | exact rfl)))
              | ((with_reducible apply te_alloc); (focus (simp only [go_sem, hNE, h1, h2, hf, kd2, h4, h5, hs, hl, hn, encD]; first | done | exact rfl)); exact rfl; exact rfl; (intro la ha hn1; have hNE := And.intro hNE hn1))
              | ((with_reducible apply te_store); (focus (simp only [go_sem, hNE, h1, h2, hf, kd2, h4, h5, hs, hl, hn, encD]; first | done | exact rfl)); (focus (simp only [go_sem, hNE, h1, h2, hf, kd2, h4, h5, hs, hl, hn, encD]; first | done | exact rfl)); (focus (simp only [go_sem, hNE, h1, h2, hf, kd2, h4, h5, hs, hl, hn, encD]; first | done | exact rfl)); (focus (simp only [go_sem, hNE, h1, h2, hf, kd2, h4, h5, hs, hl, hn, encD]; first | done | exact rfl)); (focus (simp only [go_sem, hNE, h1, h2, hf, kd2, h4, h5, hs, hl, hn, encD]; first | done | exact rfl)); (focus (simp only [go_sem, hNE, h1, h2, hf, kd2, h4, h5, hs, hl, hn, encD]; first | done | exact rfl)))
              | ((with_reducible apply t_cond); (focus (simp only [go_sem, hNE, h1, h2, hf, kd2, h4, h5, hs, hl, hn, encD]; first | done | exact rfl)))
              | (with_reducible intro hc; with_reducible exact Bool.noConfusion hc)
              | (with_reducible intro hc; have hC := And.intro hC hc))
          · (first | apply pend rs85 | apply pendN rs85); (focus (simp only [go_sem, e, hC]; first | done | exact rfl)); (focus (simp only [go_sem, e, hC]; first | done | exact rfl))
          · (first | apply pend rs85 | apply pendN rs85); (focus (simp only [go_sem, e, hC, hl, hn]; first | done | exact rfl)); (focus (simp only [go_sem, e, hC, hl, hn]; first | done | exact rfl))
        · obtain ⟨y, hy⟩ := get_dec hq1 hq2
          have hq3 : (named q.ds second.name < 0) = False := by simp; omega
          have hcy := compAt_some (x := second) hy
          (refine ppure_of_T ok85 (by simp only [List.length_cons, List.length_nil]; decide) ?_; refine t_seq ?_)
          (have hNE := True.intro; have hC := True.intro; repeat' first
              | ((with_reducible apply te_drwA); (focus (simp only [effFlA, List.map_cons, List.map_nil]; exact rfl)); (focus decide +kernel))
              | with_reducible refine k_seq ?_
              | with_reducible refine t_seq ?_
              | with_reducible refine t_reg ?_
              | with_reducible refine t_nil ?_
              | with_reducible refine t_skip ?_
              | with_reducible refine t_ret ?_
              | with_reducible refine k_seq_ret ?_
              | with_reducible refine m_nil ?_
              | ((with_reducible apply te_val); exact rfl; (intro _ _ _ h; cases h); (focus (simp only [go_sem, hNE, h1, h2, hf, kd2, h4, h5, hs, hl, hq1, hq2, hq3, hy, encD]; first | done | exact rfl)))
              | ((with_reducible apply te_callS); (focus (simp only [go_sem, hNE, h1, h2, hf, kd2, h4, h5, hs, hl, hq1, hq2, hq3, hy, encD]; first | done | exact rfl)); (focus (simp only [go_sem, hNE, h1, h2, hf, kd2, h4, h5, hs, hl, hq1, hq2, hq3, hy, encD]; first | done | exact rfl)); (focus (simp only [go_sem, hNE, h1, h2, hf, kd2, h4, h5, hs, hl, hq1, hq2, hq3, hy, encD]; first | done | exact rfl)); (first | exact p62 q.ds second.name hq | exact p35 second y))
              | ((with_reducible apply te_gval); exact rfl; (focus (simp only [go_sem, hNE, h1, h2, hf, kd2, h4, h5, hs, hl, hq1, hq2, hq3, hy, encD]; first | done | exact rfl)); exact rfl; (intro _ _ _ h; cases h); (focus (intro hG; simp only [go_sem, hNE, h1, h2, hf, kd2, h4, h5, hs, hl, hq1, hq2, hq3, hy, encD, hG]; first | done | exact rfl)))
              | ((with_reducible apply me_val); exact rfl; (intro _ _ _ h; cases h); (focus (simp only [go_sem, hNE, h1, h2, hf, kd2, h4, h5, hs, hl, hq1, hq2, hq3, hy, encD]; first | done | exact rfl)))
              | ((with_reducible apply me_gval); exact rfl; (focus (simp only [go_sem, hNE, h1, h2, hf, kd2, h4, h5, hs, hl, hq1, hq2, hq3, hy, encD]; first | done | exact rfl)); exact rfl; (intro _ _ _ h; cases h); (focus (intro hG; simp only [go_sem, hNE, h1, h2, hf, kd2, h4, h5, hs, hl, hq1, hq2, hq3, hy, encD, hG]; first | done | exact rfl)))
              | ((with_reducible apply me_gcallS); exact rfl; (focus (simp only [go_sem, hNE, h1, h2, hf, kd2, h4, h5, hs, hl, hq1, hq2, hq3, hy, encD]; first | done | exact rfl)); (focus (simp only [go_sem, hNE, h1, h2, hf, kd2, h4, h5, hs, hl, hq1, hq2, hq3, hy, encD]; first | done | exact rfl)); (focus (intro hG; simp only [go_sem, hNE, h1, h2, hf, kd2, h4, h5, hs, hl, hq1, hq2, hq3, hy, encD, hG]; first | done | exact rfl)); (focus (simp only [go_sem, hNE, h1, h2, hf, kd2, h4, h5, hs, hl, hq1, hq2, hq3, hy, encD]; done)); (intro hG; first | exact p62 q.ds second.name hq | exact p35 second y))
              | ((with_reducible apply me_gno); exact rfl; (focus (simp only [go_sem, hNE, h1, h2, hf, kd2, h4, h5, hs, hl, hq1, hq2, hq3, hy, encD]; first | done | exact rfl)); exact rfl)
              | ((with_reducible apply te_box); (focus (simp only [go_sem, hNE, h1, h2, hf, kd2, h4, h5, hs, hl, hq1, hq2, hq3, hy, encD]; first | done | exact rfl)); exact rfl; (focus (simp only [go_sem, hNE, h1, h2, hf, kd2, h4, h5, hs, hl, hq1, hq2, hq3, hy, encD]; first | done | exact rfl)))
              | ((with_reducible apply te_alloc); (focus (simp only [go_sem, hNE, h1, h2, hf, kd2, h4, h5, hs, hl, hq1, hq2, hq3, hy, encD]; first | done | exact rfl)); exact rfl; exact rfl; (intro la ha hn1; have hNE := And.intro hNE hn1))
              | ((with_reducible apply te_store); (focus (simp only [go_sem, hNE, h1, h2, hf, kd2, h4, h5, hs, hl, hq1, hq2, hq3, hy, encD]; first | done | exact rfl)); (focus (simp only [go_sem, hNE, h1, h2, hf, kd2, h4, h5, hs, hl, hq1, hq2, hq3, hy, encD]; first | done | exact rfl)); (focus (simp only [go_sem, hNE, h1, h2, hf, kd2, h4, h5, hs, hl, hq1, hq2, hq3, hy, encD]; first | done | exact rfl)); (focus (simp only [go_sem, hNE, h1, h2, hf, kd2, h4, h5, hs, hl, hq1, hq2, hq3, hy, encD]; first | done | exact rfl)); (focus (simp only [go_sem, hNE, h1, h2, hf, kd2, h4, h5, hs, hl, hq1, hq2, hq3, hy, encD]; first | done | exact rfl)); (focus (simp only [go_sem, hNE, h1, h2, hf, kd2, h4, h5, hs, hl, hq1, hq2, hq3, hy, encD]; first | done | exact rfl)))
              | ((with_reducible apply t_cond); (focus (simp only [go_sem, hNE, h1, h2, hf, kd2, h4, h5, hs, hl, hq1, hq2, hq3, hy, encD]; first | done | exact rfl)))
              | (with_reducible intro hc; with_reducible exact Bool.noConfusion hc)
              | (with_reducible intro hc; have hC := And.intro hC hc))
          · (first | apply pend rs85 | apply pendN rs85); (focus (simp only [go_sem, e, hC]; first | done | exact rfl)); (focus (simp only [go_sem, e, hC]; first | done | exact rfl))
          · (first | apply pend rs85 | apply pendN rs85); (focus (simp only [go_sem, e, hC, hl, hq3, hcy]; first | done | exact rfl)); (focus (simp only [go_sem, e, hC, hl, hq3, hcy]; first | done | exact rfl))
      · have hl1 : d.first < q.ds.length := by omega
        obtain ⟨z, hz⟩ := get_dec h1 hl1
        have hcz := compAt_some (x := first) hz
        rcases named_le q.ds second.name with hn | ⟨hq1, hq2⟩
        · (refine ppure_of_T ok85 (by simp only [List.length_cons, List.length_nil]; decide) ?_; refine t_seq ?_)
          (have hNE := True.intro; have hC := True.intro; repeat' first
              | ((with_reducible apply te_drwA); (focus (simp only [effFlA, List.map_cons, List.map_nil]; exact rfl)); (focus decide +kernel))
              | with_reducible refine k_seq ?_
              | with_reducible refine t_seq ?_
              | with_reducible refine t_reg ?_
              | with_reducible refine t_nil ?_
              | with_reducible refine t_skip ?_
              | with_reducible refine t_ret ?_
              | with_reducible refine k_seq_ret ?_
              | with_reducible refine m_nil ?_
              | ((with_reducible apply te_val); exact rfl; (intro _ _ _ h; cases h); (focus (simp only [go_sem, hNE, h1, h2, hf, kd2, h4, h5, hs, hl, hl1, hz, hn, encD]; first | done | exact rfl)))
              | ((with_reducible apply te_callS); (focus (simp only [go_sem, hNE, h1, h2, hf, kd2, h4, h5, hs, hl, hl1, hz, hn, encD]; first | done | exact rfl)); (focus (simp only [go_sem, hNE, h1, h2, hf, kd2, h4, h5, hs, hl, hl1, hz, hn, encD]; first | done | exact rfl)); (focus (simp only [go_sem, hNE, h1, h2, hf, kd2, h4, h5, hs, hl, hl1, hz, hn, encD]; first | done | exact rfl)); (first | exact p62 q.ds second.name hq | exact p35 first z))
              | ((with_reducible apply te_gval); exact rfl; (focus (simp only [go_sem, hNE, h1, h2, hf, kd2, h4, h5, hs, hl, hl1, hz, hn, encD]; first | done | exact rfl)); exact rfl; (intro _ _ _ h; cases h); (focus (intro hG; simp only [go_sem, hNE, h1, h2, hf, kd2, h4, h5, hs, hl, hl1, hz, hn, encD, hG]; first | done | exact rfl)))
              | ((with_reducible apply me_val); exact rfl; (intro _ _ _ h; cases h); (focus (simp only [go_sem, hNE, h1, h2, hf, kd2, h4, h5, hs, hl, hl1, hz, hn, encD]; first | done | exact rfl)))
              | ((with_reducible apply me_gval); exact rfl; (focus (simp only [go_sem, hNE, h1, h2, hf, kd2, h4, h5, hs, hl, hl1, hz, hn, encD]; first | done | exact rfl)); exact rfl; (intro _ _ _ h; cases h); (focus (intro hG; simp only [go_sem, hNE, h1, h2, hf, kd2, h4, h5, hs, hl, hl1, hz, hn, encD, hG]; first | done | exact rfl)))
              | ((with_reducible apply me_gcallS); exact rfl; (focus (simp only [go_sem, hNE, h1, h2, hf, kd2, h4, h5, hs, hl, hl1, hz, hn, encD]; first | done | exact rfl)); (focus (simp only [go_sem, hNE, h1, h2, hf, kd2, h4, h5, hs, hl, hl1, hz, hn, encD]; first | done | exact rfl)); (focus (intro hG; simp only [go_sem, hNE, h1, h2, hf, kd2, h4, h5, hs, hl, hl1, hz, hn, encD, hG]; first | done | exact rfl)); (focus (simp only [go_sem, hNE, h1, h2, hf, kd2, h4, h5, hs, hl, hl1, hz, hn, encD]; done)); (intro hG; first | exact p62 q.ds second.name hq | exact p35 first z))
              | ((with_reducible apply me_gno); exact rfl; (focus (simp only [go_sem, hNE, h1, h2, hf, kd2, h4, h5, hs, hl, hl1, hz, hn, encD]; first | done | exact rfl)); exact rfl)
              | ((with_reducible apply te_box); (focus (simp only [go_sem, hNE, h1, h2, hf, kd2, h4, h5, hs, hl, hl1, hz, hn, encD]; first | done | exact rfl)); exact rfl; (focus (simp only [go_sem, hNE, h1, h2, hf, kd2, h4, h5, hs, hl, hl1, hz, hn, encD]; first | done | exact rfl)))
              | ((with_reducible apply te_alloc); (focus (simp only [go_sem, hNE, h1, h2, hf, kd2, h4, h5, hs, hl, hl1, hz, hn, encD]; first | done | exact rfl)); exact rfl; exact rfl; (intro la ha hn1; have hNE := And.intro hNE hn1))
              | ((with_reducible apply te_store); (focus (simp only [go_sem, hNE, h1, h2, hf, kd2, h4, h5, hs, hl, hl1, hz, hn, encD]; first | done | exact rfl)); (focus (simp only [go_sem, hNE, h1, h2, hf, kd2, h4, h5, hs, hl, hl1, hz, hn, encD]; first | done | exact rfl)); (focus (simp only [go_sem, hNE, h1, h2, hf, kd2, h4, h5, hs, hl, hl1, hz, hn, encD]; first | done | exact rfl)); (focus (simp only [go_sem, hNE, h1, h2, hf, kd2, h4, h5, hs, hl, hl1, hz, hn, encD]; first | done | exact rfl)); (focus (simp only [go_sem, hNE, h1, h2, hf, kd2, h4, h5, hs, hl, hl1, hz, hn, encD]; first | done | exact rfl)); (focus (simp only [go_sem, hNE, h1, h2, hf, kd2, h4, h5, hs, hl, hl1, hz, hn, encD]; first | done | exact rfl)))
              | ((with_reducible apply t_cond); (focus (simp only [go_sem, hNE, h1, h2, hf, kd2, h4, h5, hs, hl, hl1, hz, hn, encD]; first | done | exact rfl)))
              | (with_reducible intro hc; with_reducible exact Bool.noConfusion hc)
              | (with_reducible intro hc; have hC := And.intro hC hc))
          · (first | apply pend rs85 | apply pendN rs85); (focus (simp only [go_sem, e, hC]; first | done | exact rfl)); (focus (simp only [go_sem, e, hC]; first | done | exact rfl))
          · (first | apply pend rs85 | apply pendN rs85); (focus (simp only [go_sem, e, hC, hl, hn, hcz]; first | done | exact rfl)); (focus (simp only [go_sem, e, hC, hl, hn, hcz]; first | done | exact rfl))
        · obtain ⟨y, hy⟩ := get_dec hq1 hq2
          have hq3 : (named q.ds second.name < 0) = False := by simp; omega
          have hcy := compAt_some (x := second) hy
          (refine ppure_of_T ok85 (by simp only [List.length_cons, List.length_nil]; decide) ?_; refine t_seq ?_)
          (have hNE := True.intro; have hC := True.intro; repeat' first
              | ((with_reducible apply te_drwA); (focus (simp only [effFlA, List.map_cons, List.map_nil]; exact rfl)); (focus decide +kernel))
              | with_reducible refine k_seq ?_
              | with_reducible refine t_seq ?_
              | with_reducible refine t_reg ?_
              | with_reducible refine t_nil ?_
              | with_reducible refine t_skip ?_
              | with_reducible refine t_ret ?_
              | with_reducible refine k_seq_ret ?_
              | with_reducible refine m_nil ?_
              | ((with_reducible apply te_val); exact rfl; (intro _ _ _ h; cases h); (focus (simp only [go_sem, hNE, h1, h2, hf, kd2, h4, h5, hs, hl, hl1, hz, hq1, hq2, hq3, hy, encD]; first | done | exact rfl)))
              | ((with_reducible apply te_callS); (focus (simp only [go_sem, hNE, h1, h2, hf, kd2, h4, h5, hs, hl, hl1, hz, hq1, hq2, hq3, hy, encD]; first | done | exact rfl)); (focus (simp only [go_sem, hNE, h1, h2, hf, kd2, h4, h5, hs, hl, hl1, hz, hq1, hq2, hq3, hy, encD]; first | done | exact rfl)); (focus (simp only [go_sem, hNE, h1, h2, hf, kd2, h4, h5, hs, hl, hl1, hz, hq1, hq2, hq3, hy, encD]; first | done | exact rfl)); (first | exact p62 q.ds second.name hq | exact p35 second y | exact p35 first z))
              | ((with_reducible apply te_gval); exact rfl; (focus (simp only [go_sem, hNE, h1, h2, hf, kd2, h4, h5, hs, hl, hl1, hz, hq1, hq2, hq3, hy, encD]; first | done | exact rfl)); exact rfl; (intro _ _ _ h; cases h); (focus (intro hG; simp only [go_sem, hNE, h1, h2, hf, kd2, h4, h5, hs, hl, hl1, hz, hq1, hq2, hq3, hy, encD, hG]; first | done | exact rfl)))
              | ((with_reducible apply me_val); exact rfl; (intro _ _ _ h; cases h); (focus (simp only [go_sem, hNE, h1, h2, hf, kd2, h4, h5, hs, hl, hl1, hz, hq1, hq2, hq3, hy, encD]; first | done | exact rfl)))
              | ((with_reducible apply me_gval); exact rfl; (focus (simp only [go_sem, hNE, h1, h2, hf, kd2, h4, h5, hs, hl, hl1, hz, hq1, hq2, hq3, hy, encD]; first | done | exact rfl)); exact rfl; (intro _ _ _ h; cases h); (focus (intro hG; simp only [go_sem, hNE, h1, h2, hf, kd2, h4, h5, hs, hl, hl1, hz, hq1, hq2, hq3, hy, encD, hG]; first | done | exact rfl)))
              | ((with_reducible apply me_gcallS); exact rfl; (focus (simp only [go_sem, hNE, h1, h2, hf, kd2, h4, h5, hs, hl, hl1, hz, hq1, hq2, hq3, hy, encD]; first | done | exact rfl)); (focus (simp only [go_sem, hNE, h1, h2, hf, kd2, h4, h5, hs, hl, hl1, hz, hq1, hq2, hq3, hy, encD]; first | done | exact rfl)); (focus (intro hG; simp only [go_sem, hNE, h1, h2, hf, kd2, h4, h5, hs, hl, hl1, hz, hq1, hq2, hq3, hy, encD, hG]; first | done | exact rfl)); (focus (simp only [go_sem, hNE, h1, h2, hf, kd2, h4, h5, hs, hl, hl1, hz, hq1, hq2, hq3, hy, encD]; done)); (intro hG; first | exact p62 q.ds second.name hq | exact p35 second y | exact p35 first z))
              | ((with_reducible apply te_box); (focus (simp only [go_sem, hNE, h1, h2, hf, kd2, h4, h5, hs, hl, hl1, hz, hq1, hq2, hq3, hy, encD]; first | done | exact rfl)); exact rfl; (focus (simp only [go_sem, hNE, h1, h2, hf, kd2, h4, h5, hs, hl, hl1, hz, hq1, hq2, hq3, hy, encD]; first | done | exact rfl)))
              | ((with_reducible apply te_alloc); (focus (simp only [go_sem, hNE, h1, h2, hf, kd2, h4, h5, hs, hl, hl1, hz, hq1, hq2, hq3, hy, encD]; first | done | exact rfl)); exact rfl; exact rfl; (intro la ha hn1; have hNE := And.intro hNE hn1))
              | ((with_reducible apply te_store); (focus (simp only [go_sem, hNE, h1, h2, hf, kd2, h4, h5, hs, hl, hl1, hz, hq1, hq2, hq3, hy, encD]; first | done | exact rfl)); (focus (simp only [go_sem, hNE, h1, h2, hf, kd2, h4, h5, hs, hl, hl1, hz, hq1, hq2, hq3, hy, encD]; first | done | exact rfl)); (focus (simp only [go_sem, hNE, h1, h2, hf, kd2, h4, h5, hs, hl, hl1, hz, hq1, hq2, hq3, hy, encD]; first | done | exact rfl)); (focus (simp only [go_sem, hNE, h1, h2, hf, kd2, h4, h5, hs, hl, hl1, hz, hq1, hq2, hq3, hy, encD]; first | done | exact rfl)); (focus (simp only [go_sem, hNE, h1, h2, hf, kd2, h4, h5, hs, hl, hl1, hz, hq1, hq2, hq3, hy, encD]; first | done | exact rfl)); (focus (simp only [go_sem, hNE, h1, h2, hf, kd2, h4, h5, hs, hl, hl1, hz, hq1, hq2, hq3, hy, encD]; first | done | exact rfl)))
              | ((with_reducible apply t_cond); (focus (simp only [go_sem, hNE, h1, h2, hf, kd2, h4, h5, hs, hl, hl1, hz, hq1, hq2, hq3, hy, encD]; first | done | exact rfl)))
              | (with_reducible intro hc; with_reducible exact Bool.noConfusion hc)
              | (with_reducible intro hc; have hC := And.intro hC hc))
          · (first | apply pend rs85 | apply pendN rs85); (focus (simp only [go_sem, e, hC]; first | done | exact rfl)); (focus (simp only [go_sem, e, hC]; first | done | exact rfl))
          · (first | apply pend rs85 | apply pendN rs85); (focus (simp only [go_sem, e, hC, hl, hq3, hcy, hcz]; first | done | exact rfl)); (focus (simp only [go_sem, e, hC, hl, hq3, hcy, hcz]; first | done | exact rfl))
end Go.Proofs.Ytloecggdboingaa
namespace Go.Proofs.Ytloecggdboingaa
open Go.RowKit Go.Proofs
set_option linter.unusedVariables false
set_option linter.unusedSimpArgs false
attribute [local irreducible] PPure

theorem inB_iff {n lo hi : Int} : inB n lo hi = true ↔ lo ≤ n ∧ n ≤ hi := by simp [inB]
theorem p47i (n lo hi : Int) : PPure Try.prog 47 [.int .i64 n, .int .i64 lo, .int .i64 hi] (.bool (inB n lo hi)) := p47b n lo hi
set_option maxHeartbeats 2000000 in
theorem p41 (a b : Prc) (d : Dst) (hA1 : a.ds.length ≤ 1000) (hB1 : b.ds.length ≤ 1000) : PPure Try.prog 41 [encP a, encP b, encS d] (.int .i64 (checkDst a b d)) := by
  simp only [encP, encS]
  have q26 := p26 a b hA1 hB1
  simp only [encP] at q26
  by_cases hb0 : bothErr a b = 0
  · cases hb1 : inB d.kind 0 2 with
    | false =>
      have e : checkDst a b d = 15 := by
        have : dstErr1 a b d = 15 := by simp only [dstErr1, orE, broken, hb0, hb1, if_true, Bool.false_eq_true, if_false]; rfl
        rw [checkDst, this]; rfl
      (refine ppure_of_T ok41 (by simp only [List.length_cons, List.length_nil]; decide) ?_; refine t_seq ?_)
      (have hNE := True.intro; have hC := True.intro; repeat' first
          | with_reducible refine k_seq ?_
          | with_reducible refine t_seq ?_
          | with_reducible refine t_reg ?_
          | with_reducible refine t_nil ?_
          | with_reducible refine t_skip ?_
          | with_reducible refine t_ret ?_
          | with_reducible refine k_seq_ret ?_
          | ((with_reducible apply te_val); exact rfl; (intro _ _ _ h; cases h); (focus (simp only [go_sem, hNE, hb0, hb1, encP]; first | done | exact rfl)))
          | ((with_reducible apply te_callS); (focus (simp only [go_sem, hNE, hb0, hb1, encP]; first | done | exact rfl)); (focus (simp only [go_sem, hNE, hb0, hb1, encP]; first | done | exact rfl)); (focus (simp only [go_sem, hNE, hb0, hb1, encP]; first | done | exact rfl)); (first | exact q26 | exact p47i _ _ _))
          | ((with_reducible apply te_box); (focus (simp only [go_sem, hNE, hb0, hb1, encP]; first | done | exact rfl)); exact rfl; (focus (simp only [go_sem, hNE, hb0, hb1, encP]; first | done | exact rfl)))
          | ((with_reducible apply t_cond); (focus (simp only [go_sem, hNE, hb0, hb1, encP]; first | done | exact rfl)))
          | (with_reducible intro hc; with_reducible exact Bool.noConfusion hc)
          | (with_reducible intro hc; have hC := And.intro hC hc))
      rw [e]
      (first | apply pend rs41 | apply pendN rs41); (focus (simp only [go_sem]; first | done | exact rfl)); (focus (simp only [go_sem]; first | done | exact rfl))
    | true =>
      cases hb2 : inB d.side 0 1 with
      | false =>
        have e : checkDst a b d = 2 := by
          have : dstErr1 a b d = 2 := by simp only [dstErr1, orE, broken, hb0, hb1, hb2, if_true, Bool.false_eq_true, if_false]; rfl
          rw [checkDst, this]; rfl
        (refine ppure_of_T ok41 (by simp only [List.length_cons, List.length_nil]; decide) ?_; refine t_seq ?_)
        (have hNE := True.intro; have hC := True.intro; repeat' first
            | with_reducible refine k_seq ?_
            | with_reducible refine t_seq ?_
            | with_reducible refine t_reg ?_
            | with_reducible refine t_nil ?_
            | with_reducible refine t_skip ?_
            | with_reducible refine t_ret ?_
            | with_reducible refine k_seq_ret ?_
            | ((with_reducible apply te_val); exact rfl; (intro _ _ _ h; cases h); (focus (simp only [go_sem, hNE, hb0, hb1, hb2, encP]; first | done | exact rfl)))
            | ((with_reducible apply te_callS); (focus (simp only [go_sem, hNE, hb0, hb1, hb2, encP]; first | done | exact rfl)); (focus (simp only [go_sem, hNE, hb0, hb1, hb2, encP]; first | done | exact rfl)); (focus (simp only [go_sem, hNE, hb0, hb1, hb2, encP]; first | done | exact rfl)); (first | exact q26 | exact p47i _ _ _))
            | ((with_reducible apply te_box); (focus (simp only [go_sem, hNE, hb0, hb1, hb2, encP]; first | done | exact rfl)); exact rfl; (focus (simp only [go_sem, hNE, hb0, hb1, hb2, encP]; first | done | exact rfl)))
            | ((with_reducible apply t_cond); (focus (simp only [go_sem, hNE, hb0, hb1, hb2, encP]; first | done | exact rfl)))
            | (with_reducible intro hc; with_reducible exact Bool.noConfusion hc)
            | (with_reducible intro hc; have hC := And.intro hC hc))
        rw [e]
        (first | apply pend rs41 | apply pendN rs41); (focus (simp only [go_sem]; first | done | exact rfl)); (focus (simp only [go_sem]; first | done | exact rfl))
      | true =>
        have e1 : dstErr1 a b d = 0 := by simp only [dstErr1, orE, broken, hb0, hb1, hb2, if_true]
        have ce : checkDst a b d = if dstErr2 (sidesF a b d.side).1 d = 0 then broken [(distB (sidesF a b d.side).1 (sidesF a b d.side).2 d, 19)] else dstErr2 (sidesF a b d.side).1 d := by rw [checkDst, if_pos e1]
        by_cases hsd : d.side = 1
        · have hs : sidesF a b d.side = (b.ds, a.ds) := by rw [hsd]; rfl
          have hsx : (d.side = 1) = True := eq_true hsd
          have HW : IntKind.i64.wrap ((b.ds.length : Int) - 1) = (b.ds.length : Int) - 1 := by rw [IntKind.wrap_i64]; omega
          rw [hs] at ce
          simp only at ce
          (refine ppure_of_T ok41 (by simp only [List.length_cons, List.length_nil]; decide) ?_; refine t_seq ?_)
          (have hNE := True.intro; have hC := True.intro; repeat' first
              | ((with_reducible apply te_drwZ); (focus (simp only [effFl, List.map_cons, List.map_nil]; exact rfl)); (focus decide +kernel))
              | with_reducible refine k_seq ?_
              | with_reducible refine t_seq ?_
              | with_reducible refine t_reg ?_
              | with_reducible refine t_nil ?_
              | with_reducible refine t_skip ?_
              | with_reducible refine t_ret ?_
              | with_reducible refine k_seq_ret ?_
              | with_reducible refine m_nil ?_
              | ((with_reducible apply te_val); exact rfl; (intro _ _ _ h; cases h); (focus (simp only [go_sem, hNE, hb0, hb1, hb2, hsx, HW, encP]; first | done | exact rfl)))
              | ((with_reducible apply te_callS); (focus (simp only [go_sem, hNE, hb0, hb1, hb2, hsx, HW, encP]; first | done | exact rfl)); (focus (simp only [go_sem, hNE, hb0, hb1, hb2, hsx, HW, encP]; first | done | exact rfl)); (focus (simp only [go_sem, hNE, hb0, hb1, hb2, hsx, HW, encP]; first | done | exact rfl)); (first | exact q26 | exact p47i _ _ _))
              | ((with_reducible apply te_gval); exact rfl; (focus (simp only [go_sem, hNE, hb0, hb1, hb2, hsx, HW, encP]; first | done | exact rfl)); exact rfl; (intro _ _ _ h; cases h); (focus (intro hG; simp only [go_sem, hNE, hb0, hb1, hb2, hsx, HW, encP, hG]; first | done | exact rfl)))
              | ((with_reducible apply te_gval2); exact rfl; (focus (simp only [go_sem, hNE, hb0, hb1, hb2, hsx, HW, encP]; first | done | exact rfl)); exact rfl; (intro _ _ _ h; cases h); (focus (intro hG hG2; simp only [go_sem, hNE, hb0, hb1, hb2, hsx, HW, encP, hG, hG2]; first | done | exact rfl)))
              | ((with_reducible apply te_gcall2); exact rfl; (focus (simp only [go_sem, hNE, hb0, hb1, hb2, hsx, HW, encP]; first | done | exact rfl)); (focus (simp only [go_sem, hNE, hb0, hb1, hb2, hsx, HW, encP]; first | done | exact rfl)); (focus (intro hG hG2; simp only [go_sem, hNE, hb0, hb1, hb2, hsx, HW, encP, hG, hG2]; first | done | exact rfl)); (focus (simp only [go_sem, hNE, hb0, hb1, hb2, hsx, HW, encP]; done)); (intro hG hG2; first | exact q26 | exact p47i _ _ _))
              | ((with_reducible apply me_val); exact rfl; (intro _ _ _ h; cases h); (focus (simp only [go_sem, hNE, hb0, hb1, hb2, hsx, HW, encP]; first | done | exact rfl)))
              | ((with_reducible apply te_box); (focus (simp only [go_sem, hNE, hb0, hb1, hb2, hsx, HW, encP]; first | done | exact rfl)); exact rfl; (focus (simp only [go_sem, hNE, hb0, hb1, hb2, hsx, HW, encP]; first | done | exact rfl)))
              | ((with_reducible apply me_alloc); (focus (simp only [go_sem, hNE, hb0, hb1, hb2, hsx, HW, encP]; first | done | exact rfl)); exact rfl; exact rfl; (intro la ha hn1; have hNE := And.intro hNE hn1))
              | ((with_reducible apply me_store); (focus (simp only [go_sem, hNE, hb0, hb1, hb2, hsx, HW, encP]; first | done | exact rfl)); (focus (simp only [go_sem, hNE, hb0, hb1, hb2, hsx, HW, encP]; first | done | exact rfl)); (focus (simp only [go_sem, hNE, hb0, hb1, hb2, hsx, HW, encP]; first | done | exact rfl)); (focus (simp only [go_sem, hNE, hb0, hb1, hb2, hsx, HW, encP]; first | done | exact rfl)); (focus (simp only [go_sem, hNE, hb0, hb1, hb2, hsx, HW, encP]; first | done | exact rfl)); (focus (simp only [go_sem, hNE, hb0, hb1, hb2, hsx, HW, encP]; first | done | exact rfl)))
              | ((with_reducible apply t_cond); (focus (simp only [go_sem, hNE, hb0, hb1, hb2, hsx, HW, encP]; first | done | exact rfl)))
              | (with_reducible intro hc; with_reducible exact Bool.noConfusion hc)
              | (with_reducible intro hc; have hC := And.intro hC hc))
          · have e2 : dstErr2 b.ds d = 6 := by
              have hx : (inB d.first 0 ((b.ds.length : Int) - 1) && (!decide (d.kind = 2) || inB d.second 0 ((b.ds.length : Int) - 1))) = false := by
                have := hC.2
                revert this
                cases inB d.first 0 ((b.ds.length : Int) - 1) <;> cases inB d.second 0 ((b.ds.length : Int) - 1) <;> by_cases hk : d.kind = 2 <;> simp [hk]
              simp only [dstErr2, broken, hx, Bool.false_eq_true, if_false]
            rw [ce, e2]
            (first | apply pend rs41 | apply pendN rs41); (focus (simp only [go_sem]; first | done | exact rfl)); (focus (simp only [go_sem]; first | done | exact rfl))
          · obtain ⟨⟨hC0, hC1⟩, hC2⟩ := hC
            have hx : (inB d.first 0 ((b.ds.length : Int) - 1) && (!decide (d.kind = 2) || inB d.second 0 ((b.ds.length : Int) - 1))) = true := by
              revert hC1
              cases inB d.first 0 ((b.ds.length : Int) - 1) <;> cases inB d.second 0 ((b.ds.length : Int) - 1) <;> by_cases hk : d.kind = 2 <;> simp [hk]
            have e2 : dstErr2 b.ds d = 3 := by
              have hy : (decide (d.kind = 2) || decide (d.second = 0)) = false := by
                revert hC2
                by_cases hk : d.kind = 2 <;> by_cases hk' : d.second = 0 <;> simp [hk, hk']
              simp only [dstErr2, broken, hx, hy, if_true, Bool.false_eq_true, if_false]
            rw [ce, e2]
            (first | apply pend rs41 | apply pendN rs41); (focus (simp only [go_sem]; first | done | exact rfl)); (focus (simp only [go_sem]; first | done | exact rfl))
          · obtain ⟨⟨hC0, hC1⟩, hC2⟩ := hC
            have hx : (inB d.first 0 ((b.ds.length : Int) - 1) && (!decide (d.kind = 2) || inB d.second 0 ((b.ds.length : Int) - 1))) = true := by
              revert hC1
              cases inB d.first 0 ((b.ds.length : Int) - 1) <;> cases inB d.second 0 ((b.ds.length : Int) - 1) <;> by_cases hk : d.kind = 2 <;> simp [hk]
            have hy : (decide (d.kind = 2) || decide (d.second = 0)) = true := by
              revert hC2
              by_cases hk : d.kind = 2 <;> by_cases hk' : d.second = 0 <;> simp [hk, hk']
            have e2 : dstErr2 b.ds d = 0 := by simp only [dstErr2, broken, hx, hy, if_true]
            obtain ⟨h1, h2, h3⟩ := dstErr_ok e1 e2
            have h3' : (d.kind = 0 ∨ d.kind = 1) ∨ (d.kind = 2 ∧ 0 ≤ d.second ∧ d.second < b.ds.length) := by
              have := inB_iff.1 hb1
              omega
            have q85 := p85 b a d (by assumption) (by assumption) h1 h2 h3'
            simp only [encP, encS] at q85
            rw [e2] at ce
            (have hNE := True.intro; have hC := True.intro; repeat' first
                | with_reducible refine k_seq ?_
                | with_reducible refine t_seq ?_
                | with_reducible refine t_reg ?_
                | with_reducible refine t_nil ?_
                | with_reducible refine t_skip ?_
                | with_reducible refine t_ret ?_
                | with_reducible refine k_seq_ret ?_
                | ((with_reducible apply te_val); exact rfl; (intro _ _ _ h; cases h); (focus (simp only [go_sem, hNE, encP]; first | done | exact rfl)))
                | ((with_reducible apply te_callS); (focus (simp only [go_sem, hNE, encP]; first | done | exact rfl)); (focus (simp only [go_sem, hNE, encP]; first | done | exact rfl)); (focus (simp only [go_sem, hNE, encP]; first | done | exact rfl)); (first | exact q85))
                | ((with_reducible apply t_cond); (focus (simp only [go_sem, hNE, encP]; first | done | exact rfl)))
                | (with_reducible intro hc; have hC := And.intro hC hc))
            · have e3 : distB b.ds a.ds d = false := by simpa using hC.2
              rw [ce, e3]
              (first | apply pend rs41 | apply pendN rs41); (focus (simp only [go_sem, broken]; first | done | exact rfl)); (focus (simp only [go_sem, broken]; first | done | exact rfl))
            · have e3 : distB b.ds a.ds d = true := by simpa using hC.2
              rw [ce, e3]
              (first | apply pend rs41 | apply pendN rs41); (focus (simp only [go_sem, broken]; first | done | exact rfl)); (focus (simp only [go_sem, broken]; first | done | exact rfl))
        · have hs0 : d.side = 0 := by have := inB_iff.1 hb2; omega
          have hs : sidesF a b d.side = (a.ds, b.ds) := by rw [hs0]; rfl
          have hsx : (d.side = 1) = False := eq_false hsd
          have HW : IntKind.i64.wrap ((a.ds.length : Int) - 1) = (a.ds.length : Int) - 1 := by rw [IntKind.wrap_i64]; omega
          rw [hs] at ce
          simp only at ce
          (refine ppure_of_T ok41 (by simp only [List.length_cons, List.length_nil]; decide) ?_; refine t_seq ?_)
          (have hNE := True.intro; have hC := True.intro; repeat' first
              | ((with_reducible apply te_drwZ); (focus (simp only [effFl, List.map_cons, List.map_nil]; exact rfl)); (focus decide +kernel))
              | with_reducible refine k_seq ?_
              | with_reducible refine t_seq ?_
              | with_reducible refine t_reg ?_
              | with_reducible refine t_nil ?_
              | with_reducible refine t_skip ?_
              | with_reducible refine t_ret ?_
              | with_reducible refine k_seq_ret ?_
              | with_reducible refine m_nil ?_
              | ((with_reducible apply te_val); exact rfl; (intro _ _ _ h; cases h); (focus (simp only [go_sem, hNE, hb0, hb1, hb2, hsx, HW, encP]; first | done | exact rfl)))
              | ((with_reducible apply te_callS); (focus (simp only [go_sem, hNE, hb0, hb1, hb2, hsx, HW, encP]; first | done | exact rfl)); (focus (simp only [go_sem, hNE, hb0, hb1, hb2, hsx, HW, encP]; first | done | exact rfl)); (focus (simp only [go_sem, hNE, hb0, hb1, hb2, hsx, HW, encP]; first | done | exact rfl)); (first | exact q26 | exact p47i _ _ _))
              | ((with_reducible apply te_gval); exact rfl; (focus (simp only [go_sem, hNE, hb0, hb1, hb2, hsx, HW, encP]; first | done | exact rfl)); exact rfl; (intro _ _ _ h; cases h); (focus (intro hG; simp only [go_sem, hNE, hb0, hb1, hb2, hsx, HW, encP, hG]; first | done | exact rfl)))
              | ((with_reducible apply te_gval2); exact rfl; (focus (simp only [go_sem, hNE, hb0, hb1, hb2, hsx, HW, encP]; first | done | exact rfl)); exact rfl; (intro _ _ _ h; cases h); (focus (intro hG hG2; simp only [go_sem, hNE, hb0, hb1, hb2, hsx, HW, encP, hG, hG2]; first | done | exact rfl)))
              | ((with_reducible apply te_gcall2); exact rfl; (focus (simp only [go_sem, hNE, hb0, hb1, hb2, hsx, HW, encP]; first | done | exact rfl)); (focus (simp only [go_sem, hNE, hb0, hb1, hb2, hsx, HW, encP]; first | done | exact rfl)); (focus (intro hG hG2; simp only [go_sem, hNE, hb0, hb1, hb2, hsx, HW, encP, hG, hG2]; first | done | exact rfl)); (focus (simp only [go_sem, hNE, hb0, hb1, hb2, hsx, HW, encP]; done)); (intro hG hG2; first | exact q26 | exact p47i _ _ _))
              | ((with_reducible apply me_val); exact rfl; (intro _ _ _ h; cases h); (focus (simp only [go_sem, hNE, hb0, hb1, hb2, hsx, HW, encP]; first | done | exact rfl)))
              | ((with_reducible apply te_box); (focus (simp only [go_sem, hNE, hb0, hb1, hb2, hsx, HW, encP]; first | done | exact rfl)); exact rfl; (focus (simp only [go_sem, hNE, hb0, hb1, hb2, hsx, HW, encP]; first | done | exact rfl)))
              | ((with_reducible apply me_alloc); (focus (simp only [go_sem, hNE, hb0, hb1, hb2, hsx, HW, encP]; first | done | exact rfl)); exact rfl; exact rfl; (intro la ha hn1; have hNE := And.intro hNE hn1))
              | ((with_reducible apply me_store); (focus (simp only [go_sem, hNE, hb0, hb1, hb2, hsx, HW, encP]; first | done | exact rfl)); (focus (simp only [go_sem, hNE, hb0, hb1, hb2, hsx, HW, encP]; first | done | exact rfl)); (focus (simp only [go_sem, hNE, hb0, hb1, hb2, hsx, HW, encP]; first | done | exact rfl)); (focus (simp only [go_sem, hNE, hb0, hb1, hb2, hsx, HW, encP]; first | done | exact rfl)); (focus (simp only [go_sem, hNE, hb0, hb1, hb2, hsx, HW, encP]; first | done | exact rfl)); (focus (simp only [go_sem, hNE, hb0, hb1, hb2, hsx, HW, encP]; first | done | exact rfl)))
              | ((with_reducible apply t_cond); (focus (simp only [go_sem, hNE, hb0, hb1, hb2, hsx, HW, encP]; first | done | exact rfl)))
              | (with_reducible intro hc; with_reducible exact Bool.noConfusion hc)
              | (with_reducible intro hc; have hC := And.intro hC hc))
          · have e2 : dstErr2 a.ds d = 6 := by
              have hx : (inB d.first 0 ((a.ds.length : Int) - 1) && (!decide (d.kind = 2) || inB d.second 0 ((a.ds.length : Int) - 1))) = false := by
                have := hC.2
                revert this
                cases inB d.first 0 ((a.ds.length : Int) - 1) <;> cases inB d.second 0 ((a.ds.length : Int) - 1) <;> by_cases hk : d.kind = 2 <;> simp [hk]
              simp only [dstErr2, broken, hx, Bool.false_eq_true, if_false]
            rw [ce, e2]
            (first | apply pend rs41 | apply pendN rs41); (focus (simp only [go_sem]; first | done | exact rfl)); (focus (simp only [go_sem]; first | done | exact rfl))
          · obtain ⟨⟨hC0, hC1⟩, hC2⟩ := hC
            have hx : (inB d.first 0 ((a.ds.length : Int) - 1) && (!decide (d.kind = 2) || inB d.second 0 ((a.ds.length : Int) - 1))) = true := by
              revert hC1
              cases inB d.first 0 ((a.ds.length : Int) - 1) <;> cases inB d.second 0 ((a.ds.length : Int) - 1) <;> by_cases hk : d.kind = 2 <;> simp [hk]
            have e2 : dstErr2 a.ds d = 3 := by
              have hy : (decide (d.kind = 2) || decide (d.second = 0)) = false := by
                revert hC2
                by_cases hk : d.kind = 2 <;> by_cases hk' : d.second = 0 <;> simp [hk, hk']
              simp only [dstErr2, broken, hx, hy, if_true, Bool.false_eq_true, if_false]
            rw [ce, e2]
            (first | apply pend rs41 | apply pendN rs41); (focus (simp only [go_sem]; first | done | exact rfl)); (focus (simp only [go_sem]; first | done | exact rfl))
          · obtain ⟨⟨hC0, hC1⟩, hC2⟩ := hC
            have hx : (inB d.first 0 ((a.ds.length : Int) - 1) && (!decide (d.kind = 2) || inB d.second 0 ((a.ds.length : Int) - 1))) = true := by
              revert hC1
              cases inB d.first 0 ((a.ds.length : Int) - 1) <;> cases inB d.second 0 ((a.ds.length : Int) - 1) <;> by_cases hk : d.kind = 2 <;> simp [hk]
            have hy : (decide (d.kind = 2) || decide (d.second = 0)) = true := by
              revert hC2
              by_cases hk : d.kind = 2 <;> by_cases hk' : d.second = 0 <;> simp [hk, hk']
            have e2 : dstErr2 a.ds d = 0 := by simp only [dstErr2, broken, hx, hy, if_true]
            obtain ⟨h1, h2, h3⟩ := dstErr_ok e1 e2
            have h3' : (d.kind = 0 ∨ d.kind = 1) ∨ (d.kind = 2 ∧ 0 ≤ d.second ∧ d.second < a.ds.length) := by
              have := inB_iff.1 hb1
              omega
            have q85 := p85 a b d (by assumption) (by assumption) h1 h2 h3'
            simp only [encP, encS] at q85
            rw [e2] at ce
            (have hNE := True.intro; have hC := True.intro; repeat' first
                | with_reducible refine k_seq ?_
                | with_reducible refine t_seq ?_
                | with_reducible refine t_reg ?_
                | with_reducible refine t_nil ?_
                | with_reducible refine t_skip ?_
                | with_reducible refine t_ret ?_
                | with_reducible refine k_seq_ret ?_
                | ((with_reducible apply te_val); exact rfl; (intro _ _ _ h; cases h); (focus (simp only [go_sem, hNE, encP]; first | done | exact rfl)))
                | ((with_reducible apply te_callS); (focus (simp only [go_sem, hNE, encP]; first | done | exact rfl)); (focus (simp only [go_sem, hNE, encP]; first | done | exact rfl)); (focus (simp only [go_sem, hNE, encP]; first | done | exact rfl)); (first | exact q85))
                | ((with_reducible apply t_cond); (focus (simp only [go_sem, hNE, encP]; first | done | exact rfl)))
                | (with_reducible intro hc; have hC := And.intro hC hc))
            · have e3 : distB a.ds b.ds d = false := by simpa using hC.2
              rw [ce, e3]
              (first | apply pend rs41 | apply pendN rs41); (focus (simp only [go_sem, broken]; first | done | exact rfl)); (focus (simp only [go_sem, broken]; first | done | exact rfl))
            · have e3 : distB a.ds b.ds d = true := by simpa using hC.2
              rw [ce, e3]
              (first | apply pend rs41 | apply pendN rs41); (focus (simp only [go_sem, broken]; first | done | exact rfl)); (focus (simp only [go_sem, broken]; first | done | exact rfl))
  · have e : checkDst a b d = bothErr a b := by
      have : dstErr1 a b d = bothErr a b := by simp only [dstErr1, orE]; rw [if_neg hb0]
      rw [checkDst, this, if_neg hb0]
    (refine ppure_of_T ok41 (by simp only [List.length_cons, List.length_nil]; decide) ?_; refine t_seq ?_)
    (have hNE := True.intro; have hC := True.intro; repeat' first
        | with_reducible refine k_seq ?_
        | with_reducible refine t_seq ?_
        | with_reducible refine t_reg ?_
        | with_reducible refine t_nil ?_
        | with_reducible refine t_ret ?_
        | with_reducible refine k_seq_ret ?_
        | ((with_reducible apply te_val); exact rfl; (intro _ _ _ h; cases h); (focus (simp only [go_sem, hNE, hb0, encP]; first | done | exact rfl)))
        | ((with_reducible apply te_callS); (focus (simp only [go_sem, hNE, hb0, encP]; first | done | exact rfl)); (focus (simp only [go_sem, hNE, hb0, encP]; first | done | exact rfl)); (focus (simp only [go_sem, hNE, hb0, encP]; first | done | exact rfl)); (first | exact q26))
        | ((with_reducible apply te_box); (focus (simp only [go_sem, hNE, hb0, encP]; first | done | exact rfl)); exact rfl; (focus (simp only [go_sem, hNE, hb0, encP]; first | done | exact rfl)))
        | ((with_reducible apply t_cond); (focus (simp only [go_sem, hNE, hb0, encP]; first | done | exact rfl)))
        | (with_reducible intro hc; with_reducible exact Bool.noConfusion hc)
        | (with_reducible intro hc; have hC := And.intro hC hc))
    rw [e]
    (first | apply pend rs41 | apply pendN rs41); (focus (simp only [go_sem]; first | done | exact rfl)); (focus (simp only [go_sem]; first | done | exact rfl))
end Go.Proofs.Ytloecggdboingaa
namespace Go.Proofs.Ytloecggdboingaa
open Go.RowKit Go.Proofs
set_option linter.unusedVariables false
set_option linter.unusedSimpArgs false
attribute [local irreducible] PPure

def rS4 (a b : Prc) (kind side first : Nat) (second : Nat) : Option Dst := if checkDst a b ⟨kind, side, first, second⟩ = 0 then some ⟨kind, side, first, second⟩ else none
def rS3 (a b : Prc) (kind side : Nat) (first : Nat) : Option Dst := srch (rS4 a b kind side first) 8 0
def rS2 (a b : Prc) (kind : Nat) (side : Nat) : Option Dst := srch (rS3 a b kind side) 8 0
def rS1 (a b : Prc) (kind : Nat) : Option Dst := srch (rS2 a b kind) 2 0
def refDist (a b : Prc) : Option Dst := srch (rS1 a b) 3 0
theorem small_lt {i n : Nat} {c : Int} (h : i < n) (hc : c = n) : (i : Int) < c := by omega
theorem small_nlt {i n : Nat} {c : Int} (h : ¬ i < n) (hc : c = n) : ((i : Int) < c) = False := eq_false (by omega)
set_option maxHeartbeats 2000000 in
theorem p42 (a b : Prc) (hA1 : a.ds.length ≤ 1000) (hB1 : b.ds.length ≤ 1000) : PPure Try.prog 42 [encP a, encP b] (.tup [encS ((refDist a b).getD dst0), .bool (refDist a b).isSome]) := by
  simp only [encP]
  (refine ppure_of_T ok42 (by simp only [List.length_cons, List.length_nil]; decide) ?_; refine t_seq ?_)
  (have hNE := True.intro; have hC := True.intro; repeat' first
      | with_reducible refine k_seq ?_
      | with_reducible refine t_seq ?_
      | with_reducible refine t_reg ?_
      | with_reducible refine t_nil ?_
      | with_reducible refine t_block ?_
      | ((with_reducible apply te_val); exact rfl; (intro _ _ _ h; cases h); (focus (simp only [go_sem, hNE, encP]; first | done | exact rfl)))
      | ((with_reducible apply te_box); (focus (simp only [go_sem, hNE, encP]; first | done | exact rfl)); exact rfl; (focus (simp only [go_sem, hNE, encP]; first | done | exact rfl)))
      | ((with_reducible apply te_alloc); (focus (simp only [go_sem, hNE, encP]; first | done | exact rfl)); exact rfl; exact rfl; (intro la ha hn1; have hNE := And.intro hNE hn1)))
  obtain ⟨l4, hl4⟩ : ∃ l, l = la := ⟨la, rfl⟩
  subst hl4
  refine t_loopE (fun (k0 : Nat) (E0 : Nat → PV) (H0 : Hp) => ∃ (i : Nat), i + k0 = 3 ∧ srch (rS1 a b) k0 i = refDist a b ∧ H0 l4 = some (.row true 4 [.agg [.int .i64 0, .int .i64 0, .int .i64 0, .int .i64 0]]) ∧ E0 6 = .int .i64 i) (3) ⟨0, (by first | omega | rfl | assumption | (simp only [go_sem]; first | done | rfl | assumption | omega)), (by first | omega | rfl | assumption | (simp only [go_sem]; first | done | rfl | assumption | omega)), (by first | omega | rfl | assumption | (simp only [go_sem]; first | done | rfl | assumption | omega)), (by simp only [go_sem]; first | done | rfl)⟩ ?_
  rintro k0 E0 H0 hfr0 ⟨i, hk, hr, hz0, h0_6⟩
  have e0_2 := hfr0 2 rfl; have e0_3 := hfr0 3 rfl; have e0_4 := hfr0 4 rfl
  simp only [go_sem] at e0_2 e0_3 e0_4
  clear hfr0
  by_cases hi : i < 3
  · have hlt : (i : Int) < 3 := small_lt hi rfl
    have hw0 := wrap_next hi (by decide)
    obtain ⟨k0', hk0⟩ : ∃ k', k0 = k' + 1 := ⟨k0 - 1, by omega⟩
    have hk1 : k0 - 1 = k0' := by omega
    rw [hk0, srch] at hr
    (have hA := And.intro e0_2 (And.intro e0_3 (And.intro e0_4 (And.intro h0_6 (hz0)))); have hNE := True.intro; have hC := True.intro; repeat' first
        | with_reducible refine k_seq ?_
        | with_reducible refine t_seq ?_
        | with_reducible refine t_reg ?_
        | with_reducible refine t_nil ?_
        | with_reducible refine t_skip ?_
        | with_reducible refine t_block ?_
        | ((with_reducible apply te_val); exact rfl; (intro _ _ _ h; cases h); (focus (simp only [go_sem, hNE, hA, hlt, encP]; first | done | exact rfl)))
        | ((with_reducible apply t_cond); (focus (simp only [go_sem, hNE, hA, hlt, encP]; first | done | exact rfl)))
        | (with_reducible intro hc; with_reducible exact Bool.noConfusion hc)
        | (with_reducible intro hc; have hC := And.intro hC hc))
    refine t_loopE (fun (k2 : Nat) (E2 : Nat → PV) (H2 : Hp) => ∃ (j : Nat), j + k2 = 2 ∧ srch (rS2 a b i) k2 j = rS1 a b i ∧ H2 l4 = some (.row true 4 [.agg [.int .i64 0, .int .i64 0, .int .i64 0, .int .i64 0]]) ∧ E2 7 = .int .i64 j) (2) ⟨0, (by first | omega | rfl | assumption | (simp only [go_sem, e0_2, e0_3, e0_4, h0_6, hz0, hlt]; first | done | rfl | assumption | omega)), (by first | omega | rfl | assumption | (simp only [go_sem, e0_2, e0_3, e0_4, h0_6, hz0, hlt]; first | done | rfl | assumption | omega)), (by first | omega | rfl | assumption | (simp only [go_sem, e0_2, e0_3, e0_4, h0_6, hz0, hlt]; first | done | rfl | assumption | omega)), (by simp only [go_sem, e0_2, e0_3, e0_4, h0_6, hz0, hlt]; first | done | rfl)⟩ ?_
    rintro k2 E2 H2 hfr2 ⟨j, hk2, hr2, hz2, h2_7⟩
    have e2_2 := hfr2 2 rfl; have e2_3 := hfr2 3 rfl; have e2_4 := hfr2 4 rfl; have e2_6 := hfr2 6 rfl
    simp only [go_sem, e0_2, e0_3, e0_4, h0_6, hz0, hlt] at e2_2 e2_3 e2_4 e2_6
    clear hfr2
    by_cases hj : j < 2
    · have hlt2 : (j : Int) < 2 := small_lt hj rfl
      have hw2 := wrap_next hj (by decide)
      obtain ⟨k2', hk2'⟩ : ∃ k', k2 = k' + 1 := ⟨k2 - 1, by omega⟩
      have hk3 : k2 - 1 = k2' := by omega
      rw [hk2', srch] at hr2
      (have hA := And.intro e0_2 (And.intro e0_3 (And.intro e0_4 (And.intro h0_6 (And.intro hz0 (And.intro e2_2 (And.intro e2_3 (And.intro e2_4 (And.intro e2_6 (And.intro h2_7 (hz2)))))))))); have hNE := True.intro; have hC := True.intro; repeat' first
          | with_reducible refine k_seq ?_
          | with_reducible refine t_seq ?_
          | with_reducible refine t_reg ?_
          | with_reducible refine t_nil ?_
          | with_reducible refine t_skip ?_
          | with_reducible refine t_block ?_
          | ((with_reducible apply te_val); exact rfl; (intro _ _ _ h; cases h); (focus (simp only [go_sem, hNE, hA, hlt2, encP]; first | done | exact rfl)))
          | ((with_reducible apply t_cond); (focus (simp only [go_sem, hNE, hA, hlt2, encP]; first | done | exact rfl)))
          | (with_reducible intro hc; with_reducible exact Bool.noConfusion hc)
          | (with_reducible intro hc; have hC := And.intro hC hc))
      refine t_loopE (fun (k4 : Nat) (E4 : Nat → PV) (H4 : Hp) => ∃ (f : Nat), f + k4 = 8 ∧ srch (rS3 a b i j) k4 f = rS2 a b i j ∧ H4 l4 = some (.row true 4 [.agg [.int .i64 0, .int .i64 0, .int .i64 0, .int .i64 0]]) ∧ E4 8 = .int .i64 f) (8) ⟨0, (by first | omega | rfl | assumption | (simp only [go_sem, e0_2, e0_3, e0_4, h0_6, hz0, e2_2, e2_3, e2_4, e2_6, h2_7, hz2, hlt2]; first | done | rfl | assumption | omega)), (by first | omega | rfl | assumption | (simp only [go_sem, e0_2, e0_3, e0_4, h0_6, hz0, e2_2, e2_3, e2_4, e2_6, h2_7, hz2, hlt2]; first | done | rfl | assumption | omega)), (by first | omega | rfl | assumption | (simp only [go_sem, e0_2, e0_3, e0_4, h0_6, hz0, e2_2, e2_3, e2_4, e2_6, h2_7, hz2, hlt2]; first | done | rfl | assumption | omega)), (by simp only [go_sem, e0_2, e0_3, e0_4, h0_6, hz0, e2_2, e2_3, e2_4, e2_6, h2_7, hz2, hlt2]; first | done | rfl)⟩ ?_
      rintro k4 E4 H4 hfr4 ⟨f, hk4, hr4, hz4, h4_8⟩
      have e4_2 := hfr4 2 rfl; have e4_3 := hfr4 3 rfl; have e4_4 := hfr4 4 rfl; have e4_6 := hfr4 6 rfl; have e4_7 := hfr4 7 rfl
      simp only [go_sem, e0_2, e0_3, e0_4, h0_6, hz0, e2_2, e2_3, e2_4, e2_6, h2_7, hz2, hlt2] at e4_2 e4_3 e4_4 e4_6 e4_7
      clear hfr4
      by_cases hf : f < 8
      · have hlt4 : (f : Int) < 8 := small_lt hf rfl
        have hw4 := wrap_next hf (by decide)
        obtain ⟨k4', hk4'⟩ : ∃ k', k4 = k' + 1 := ⟨k4 - 1, by omega⟩
        have hk5 : k4 - 1 = k4' := by omega
        rw [hk4', srch] at hr4
        (have hA := And.intro e0_2 (And.intro e0_3 (And.intro e0_4 (And.intro h0_6 (And.intro hz0 (And.intro e2_2 (And.intro e2_3 (And.intro e2_4 (And.intro e2_6 (And.intro h2_7 (And.intro hz2 (And.intro e4_2 (And.intro e4_3 (And.intro e4_4 (And.intro e4_6 (And.intro e4_7 (And.intro h4_8 (hz4))))))))))))))))); have hNE := True.intro; have hC := True.intro; repeat' first
            | with_reducible refine k_seq ?_
            | with_reducible refine t_seq ?_
            | with_reducible refine t_reg ?_
            | with_reducible refine t_nil ?_
            | with_reducible refine t_skip ?_
            | with_reducible refine t_block ?_
            | ((with_reducible apply te_val); exact rfl; (intro _ _ _ h; cases h); (focus (simp only [go_sem, hNE, hA, hlt4, encP]; first | done | exact rfl)))
            | ((with_reducible apply t_cond); (focus (simp only [go_sem, hNE, hA, hlt4, encP]; first | done | exact rfl)))
            | (with_reducible intro hc; with_reducible exact Bool.noConfusion hc)
            | (with_reducible intro hc; have hC := And.intro hC hc))
        refine t_loopE (fun (k6 : Nat) (E6 : Nat → PV) (H6 : Hp) => ∃ (g : Nat), g + k6 = 8 ∧ srch (rS4 a b i j f) k6 g = rS3 a b i j f ∧ H6 l4 = some (.row true 4 [.agg [.int .i64 0, .int .i64 0, .int .i64 0, .int .i64 0]]) ∧ E6 9 = .int .i64 g) (8) ⟨0, (by first | omega | rfl | assumption | (simp only [go_sem, e0_2, e0_3, e0_4, h0_6, hz0, e2_2, e2_3, e2_4, e2_6, h2_7, hz2, e4_2, e4_3, e4_4, e4_6, e4_7, h4_8, hz4, hlt4]; first | done | rfl | assumption | omega)), (by first | omega | rfl | assumption | (simp only [go_sem, e0_2, e0_3, e0_4, h0_6, hz0, e2_2, e2_3, e2_4, e2_6, h2_7, hz2, e4_2, e4_3, e4_4, e4_6, e4_7, h4_8, hz4, hlt4]; first | done | rfl | assumption | omega)), (by first | omega | rfl | assumption | (simp only [go_sem, e0_2, e0_3, e0_4, h0_6, hz0, e2_2, e2_3, e2_4, e2_6, h2_7, hz2, e4_2, e4_3, e4_4, e4_6, e4_7, h4_8, hz4, hlt4]; first | done | rfl | assumption | omega)), (by simp only [go_sem, e0_2, e0_3, e0_4, h0_6, hz0, e2_2, e2_3, e2_4, e2_6, h2_7, hz2, e4_2, e4_3, e4_4, e4_6, e4_7, h4_8, hz4, hlt4]; first | done | rfl)⟩ ?_
        rintro k6 E6 H6 hfr6 ⟨g, hk6, hr6, hz6, h6_9⟩
        have e6_2 := hfr6 2 rfl; have e6_3 := hfr6 3 rfl; have e6_4 := hfr6 4 rfl; have e6_6 := hfr6 6 rfl; have e6_7 := hfr6 7 rfl; have e6_8 := hfr6 8 rfl
        simp only [go_sem, e0_2, e0_3, e0_4, h0_6, hz0, e2_2, e2_3, e2_4, e2_6, h2_7, hz2, e4_2, e4_3, e4_4, e4_6, e4_7, h4_8, hz4, hlt4] at e6_2 e6_3 e6_4 e6_6 e6_7 e6_8
        clear hfr6
        by_cases hg : g < 8
        · have hlt6 : (g : Int) < 8 := small_lt hg rfl
          have hw6 := wrap_next hg (by decide)
          obtain ⟨k6', hk6'⟩ : ∃ k', k6 = k' + 1 := ⟨k6 - 1, by omega⟩
          have hk7 : k6 - 1 = k6' := by omega
          rw [hk6', srch] at hr6
          have q41 := p41 a b ⟨i, j, f, g⟩ hA1 hB1
          simp only [encS, encP] at q41
          (have hA := And.intro e0_2 (And.intro e0_3 (And.intro e0_4 (And.intro h0_6 (And.intro hz0 (And.intro e2_2 (And.intro e2_3 (And.intro e2_4 (And.intro e2_6 (And.intro h2_7 (And.intro hz2 (And.intro e4_2 (And.intro e4_3 (And.intro e4_4 (And.intro e4_6 (And.intro e4_7 (And.intro h4_8 (And.intro hz4 (And.intro e6_2 (And.intro e6_3 (And.intro e6_4 (And.intro e6_6 (And.intro e6_7 (And.intro e6_8 (And.intro h6_9 (hz6))))))))))))))))))))))))); have hNE := True.intro; have hC := True.intro; repeat' first
              | with_reducible refine k_seq ?_
              | with_reducible refine t_seq ?_
              | with_reducible refine t_reg ?_
              | with_reducible refine t_nil ?_
              | with_reducible refine t_skip ?_
              | with_reducible refine t_ret ?_
              | with_reducible refine k_seq_ret ?_
              | with_reducible refine k_blk_ret ?_
              | with_reducible refine k_blk ?_
              | with_reducible refine k_invE_ret ?_
              | with_reducible refine t_block ?_
              | ((with_reducible apply te_val); exact rfl; (intro _ _ _ h; cases h); (focus (simp only [go_sem, hNE, hA, hlt6, encP, encS]; first | done | exact rfl)))
              | ((with_reducible apply te_callS); (focus (simp only [go_sem, hNE, hA, hlt6, encP, encS]; first | done | exact rfl)); (focus (simp only [go_sem, hNE, hA, hlt6, encP, encS]; first | done | exact rfl)); (focus (simp only [go_sem, hNE, hA, hlt6, encP, encS]; first | done | exact rfl)); (first | exact q41))
              | ((with_reducible apply te_alloc); (focus (simp only [go_sem, hNE, hA, hlt6, encP, encS]; first | done | exact rfl)); exact rfl; exact rfl; (intro la ha hn1; have hNE := And.intro hNE hn1))
              | ((with_reducible apply te_store); (focus (simp only [go_sem, hNE, hA, hlt6, encP, encS]; first | done | exact rfl)); (focus (simp only [go_sem, hNE, hA, hlt6, encP, encS]; first | done | exact rfl)); (focus (simp only [go_sem, hNE, hA, hlt6, encP, encS]; first | done | exact rfl)); (focus (simp only [go_sem, hNE, hA, hlt6, encP, encS]; first | done | exact rfl)); (focus (simp only [go_sem, hNE, hA, hlt6, encP, encS]; first | done | exact rfl)); (focus (simp only [go_sem, hNE, hA, hlt6, encP, encS]; first | done | exact rfl)))
              | ((with_reducible apply t_cond); (focus (simp only [go_sem, hNE, hA, hlt6, encP, encS]; first | done | exact rfl)))
              | (with_reducible intro hc; with_reducible exact Bool.noConfusion hc)
              | (with_reducible intro hc; have hC := And.intro hC hc))
          · have e4 : rS4 a b i j f g = some ⟨i, j, f, g⟩ := by simp only [rS4]; rw [if_pos (by simpa using hC.2)]
            rw [e4] at hr6
            simp only at hr6
            rw [← hr6] at hr4
            simp only at hr4
            rw [← hr4] at hr2
            simp only at hr2
            rw [← hr2] at hr
            simp only at hr
            rw [← hr]
            (first | apply pend rs42 | apply pendN rs42); (focus (simp only [go_sem, e0_2, e0_3, e0_4, h0_6, hz0, e2_2, e2_3, e2_4, e2_6, h2_7, hz2, e4_2, e4_3, e4_4, e4_6, e4_7, h4_8, hz4, e6_2, e6_3, e6_4, e6_6, e6_7, e6_8, h6_9, hz6, encS]; first | done | exact rfl)); (focus (simp only [go_sem, e0_2, e0_3, e0_4, h0_6, hz0, e2_2, e2_3, e2_4, e2_6, h2_7, hz2, e4_2, e4_3, e4_4, e4_6, e4_7, h4_8, hz4, e6_2, e6_3, e6_4, e6_6, e6_7, e6_8, h6_9, hz6, encS]; first | done | exact rfl))
          · have e4 : rS4 a b i j f g = none := by simp only [rS4]; rw [if_neg (by simpa using hC.2)]
            rw [e4] at hr6
            simp only at hr6
            refine k_invE (k6 - 1) (by omega) ⟨g + 1, (by omega), ?_, (by simp only [go_sem, e0_2, e0_3, e0_4, h0_6, hz0, e2_2, e2_3, e2_4, e2_6, h2_7, hz2, e4_2, e4_3, e4_4, e4_6, e4_7, h4_8, hz4, e6_2, e6_3, e6_4, e6_6, e6_7, e6_8, h6_9, hz6, hw6, hNE]; first | done | rfl), (by simp only [go_sem, e0_2, e0_3, e0_4, h0_6, hz0, e2_2, e2_3, e2_4, e2_6, h2_7, hz2, e4_2, e4_3, e4_4, e4_6, e4_7, h4_8, hz4, e6_2, e6_3, e6_4, e6_6, e6_7, e6_8, h6_9, hz6, hw6]; first | done | rfl)⟩
            rw [hk7]; exact hr6
        · have hlt6 : ((g : Int) < 8) = False := small_nlt hg rfl
          have hz : k6 = 0 := by omega
          rw [hz, srch] at hr6
          rw [← hr6] at hr4
          simp only at hr4
          (have hA := And.intro e0_2 (And.intro e0_3 (And.intro e0_4 (And.intro h0_6 (And.intro hz0 (And.intro e2_2 (And.intro e2_3 (And.intro e2_4 (And.intro e2_6 (And.intro h2_7 (And.intro hz2 (And.intro e4_2 (And.intro e4_3 (And.intro e4_4 (And.intro e4_6 (And.intro e4_7 (And.intro h4_8 (And.intro hz4 (And.intro e6_2 (And.intro e6_3 (And.intro e6_4 (And.intro e6_6 (And.intro e6_7 (And.intro e6_8 (And.intro h6_9 (hz6))))))))))))))))))))))))); have hNE := True.intro; have hC := True.intro; repeat' first
              | with_reducible refine k_seq ?_
              | with_reducible refine t_seq ?_
              | with_reducible refine t_reg ?_
              | with_reducible refine t_nil ?_
              | with_reducible refine t_exit ?_
              | with_reducible refine k_seq_exit ?_
              | with_reducible refine k_blk_exit ?_
              | with_reducible refine k_blk ?_
              | with_reducible refine k_invE_exit ?_
              | ((with_reducible apply te_val); exact rfl; (intro _ _ _ h; cases h); (focus (simp only [go_sem, hNE, hA, hlt6, encP]; first | done | exact rfl)))
              | ((with_reducible apply t_cond); (focus (simp only [go_sem, hNE, hA, hlt6, encP]; first | done | exact rfl)))
              | (with_reducible intro hc; with_reducible exact Bool.noConfusion hc)
              | (with_reducible intro hc; have hC := And.intro hC hc))
          refine k_invE (k4 - 1) (by omega) ⟨f + 1, (by omega), ?_, (by simp only [go_sem, e0_2, e0_3, e0_4, h0_6, hz0, e2_2, e2_3, e2_4, e2_6, h2_7, hz2, e4_2, e4_3, e4_4, e4_6, e4_7, h4_8, hz4, e6_2, e6_3, e6_4, e6_6, e6_7, e6_8, h6_9, hz6, hw4, hNE]; first | done | rfl), (by simp only [go_sem, e0_2, e0_3, e0_4, h0_6, hz0, e2_2, e2_3, e2_4, e2_6, h2_7, hz2, e4_2, e4_3, e4_4, e4_6, e4_7, h4_8, hz4, e6_2, e6_3, e6_4, e6_6, e6_7, e6_8, h6_9, hz6, hw4]; first | done | rfl)⟩
          rw [hk5]; exact hr4
      · have hlt4 : ((f : Int) < 8) = False := small_nlt hf rfl
        have hz : k4 = 0 := by omega
        rw [hz, srch] at hr4
        rw [← hr4] at hr2
        simp only at hr2
        (have hA := And.intro e0_2 (And.intro e0_3 (And.intro e0_4 (And.intro h0_6 (And.intro hz0 (And.intro e2_2 (And.intro e2_3 (And.intro e2_4 (And.intro e2_6 (And.intro h2_7 (And.intro hz2 (And.intro e4_2 (And.intro e4_3 (And.intro e4_4 (And.intro e4_6 (And.intro e4_7 (And.intro h4_8 (hz4))))))))))))))))); have hNE := True.intro; have hC := True.intro; repeat' first
            | with_reducible refine k_seq ?_
            | with_reducible refine t_seq ?_
            | with_reducible refine t_reg ?_
            | with_reducible refine t_nil ?_
            | with_reducible refine t_exit ?_
            | with_reducible refine k_seq_exit ?_
            | with_reducible refine k_blk_exit ?_
            | with_reducible refine k_blk ?_
            | with_reducible refine k_invE_exit ?_
            | ((with_reducible apply te_val); exact rfl; (intro _ _ _ h; cases h); (focus (simp only [go_sem, hNE, hA, hlt4, encP]; first | done | exact rfl)))
            | ((with_reducible apply t_cond); (focus (simp only [go_sem, hNE, hA, hlt4, encP]; first | done | exact rfl)))
            | (with_reducible intro hc; with_reducible exact Bool.noConfusion hc)
            | (with_reducible intro hc; have hC := And.intro hC hc))
        refine k_invE (k2 - 1) (by omega) ⟨j + 1, (by omega), ?_, (by simp only [go_sem, e0_2, e0_3, e0_4, h0_6, hz0, e2_2, e2_3, e2_4, e2_6, h2_7, hz2, e4_2, e4_3, e4_4, e4_6, e4_7, h4_8, hz4, hw2, hNE]; first | done | rfl), (by simp only [go_sem, e0_2, e0_3, e0_4, h0_6, hz0, e2_2, e2_3, e2_4, e2_6, h2_7, hz2, e4_2, e4_3, e4_4, e4_6, e4_7, h4_8, hz4, hw2]; first | done | rfl)⟩
        rw [hk3]; exact hr2
    · have hlt2 : ((j : Int) < 2) = False := small_nlt hj rfl
      have hz : k2 = 0 := by omega
      rw [hz, srch] at hr2
      rw [← hr2] at hr
      simp only at hr
      (have hA := And.intro e0_2 (And.intro e0_3 (And.intro e0_4 (And.intro h0_6 (And.intro hz0 (And.intro e2_2 (And.intro e2_3 (And.intro e2_4 (And.intro e2_6 (And.intro h2_7 (hz2)))))))))); have hNE := True.intro; have hC := True.intro; repeat' first
          | with_reducible refine k_seq ?_
          | with_reducible refine t_seq ?_
          | with_reducible refine t_reg ?_
          | with_reducible refine t_nil ?_
          | with_reducible refine t_exit ?_
          | with_reducible refine k_seq_exit ?_
          | with_reducible refine k_blk_exit ?_
          | with_reducible refine k_blk ?_
          | with_reducible refine k_invE_exit ?_
          | ((with_reducible apply te_val); exact rfl; (intro _ _ _ h; cases h); (focus (simp only [go_sem, hNE, hA, hlt2, encP]; first | done | exact rfl)))
          | ((with_reducible apply t_cond); (focus (simp only [go_sem, hNE, hA, hlt2, encP]; first | done | exact rfl)))
          | (with_reducible intro hc; with_reducible exact Bool.noConfusion hc)
          | (with_reducible intro hc; have hC := And.intro hC hc))
      refine k_invE (k0 - 1) (by omega) ⟨i + 1, (by omega), ?_, (by simp only [go_sem, e0_2, e0_3, e0_4, h0_6, hz0, e2_2, e2_3, e2_4, e2_6, h2_7, hz2, hw0, hNE]; first | done | rfl), (by simp only [go_sem, e0_2, e0_3, e0_4, h0_6, hz0, e2_2, e2_3, e2_4, e2_6, h2_7, hz2, hw0]; first | done | rfl)⟩
      rw [hk1]; exact hr
  · have hlt : ((i : Int) < 3) = False := small_nlt hi rfl
    have hz : k0 = 0 := by omega
    rw [hz, srch] at hr
    (have hA := And.intro e0_2 (And.intro e0_3 (And.intro e0_4 (And.intro h0_6 (hz0)))); have hNE := True.intro; have hC := True.intro; repeat' first
        | with_reducible refine k_seq ?_
        | with_reducible refine t_seq ?_
        | with_reducible refine t_reg ?_
        | with_reducible refine t_nil ?_
        | with_reducible refine t_ret ?_
        | with_reducible refine t_exit ?_
        | with_reducible refine k_seq_exit ?_
        | with_reducible refine k_blk_exit ?_
        | with_reducible refine k_invE_exit ?_
        | ((with_reducible apply te_val); exact rfl; (intro _ _ _ h; cases h); (focus (simp only [go_sem, hNE, hA, hlt, encP]; first | done | exact rfl)))
        | ((with_reducible apply te_store); (focus (simp only [go_sem, hNE, hA, hlt, encP]; first | done | exact rfl)); (focus (simp only [go_sem, hNE, hA, hlt, encP]; first | done | exact rfl)); (focus (simp only [go_sem, hNE, hA, hlt, encP]; first | done | exact rfl)); (focus (simp only [go_sem, hNE, hA, hlt, encP]; first | done | exact rfl)); (focus (simp only [go_sem, hNE, hA, hlt, encP]; first | done | exact rfl)); (focus (simp only [go_sem, hNE, hA, hlt, encP]; first | done | exact rfl)))
        | ((with_reducible apply t_cond); (focus (simp only [go_sem, hNE, hA, hlt, encP]; first | done | exact rfl)))
        | (with_reducible intro hc; with_reducible exact Bool.noConfusion hc)
        | (with_reducible intro hc; have hC := And.intro hC hc))
    rw [← hr]
    (first | apply pend rs42 | apply pendN rs42); (focus (simp only [go_sem, e0_2, e0_3, e0_4, h0_6, hz0, dst0, encS]; first | done | exact rfl)); (focus (simp only [go_sem, e0_2, e0_3, e0_4, h0_6, hz0, dst0, encS]; first | done | exact rfl))

/-! The two searches find the same. -/
theorem srch_congr {α : Type} {f g : Nat → Option α} : ∀ (k i : Nat), (∀ j, i ≤ j → j < i + k → f j = g j) → srch f k i = srch g k i
  | 0, _, _ => rfl
  | k + 1, i, h => by
    rw [srch, srch, h i (Nat.le_refl _) (by omega), srch_congr k (i + 1) (fun j h1 h2 => h j (by omega) (by omega))]
theorem srch_none {α : Type} {f : Nat → Option α} : ∀ (k i : Nat), (∀ j, i ≤ j → j < i + k → f j = none) → srch f k i = none
  | 0, _, _ => rfl
  | k + 1, i, h => by
    rw [srch, h i (Nat.le_refl _) (by omega)]
    exact srch_none k (i + 1) (fun j h1 h2 => h j (by omega) (by omega))
theorem srch_split {α : Type} {f : Nat → Option α} : ∀ (m k i : Nat), (∀ j, i + m ≤ j → j < i + m + k → f j = none) → srch f (m + k) i = srch f m i
  | 0, k, i, h => by rw [Nat.zero_add]; exact srch_none k i (fun j h1 h2 => h j (by omega) (by omega))
  | m + 1, k, i, h => by
    rw [show m + 1 + k = (m + k) + 1 by omega, srch, srch, srch_split m k (i + 1) (fun j h1 h2 => h j (by omega) (by omega))]
theorem rules_same {a b : Prc} (h : bothErr a b = 0) (ha : a.ds.length ≤ 8) (hb : b.ds.length ≤ 8) : refDist a b = distF a b := by
  refine srch_congr 3 0 fun kind _ hk => srch_congr 2 0 fun side _ hs => ?_
  obtain ⟨hl1, hl2⟩ := sidesF_len (s := (side : Int)) ha hb
  have ce : ∀ f g : Nat, checkDst a b ⟨kind, side, f, g⟩ = if dstErr2 (sidesF a b side).1 ⟨kind, side, f, g⟩ = 0 then broken [(distB (sidesF a b side).1 (sidesF a b side).2 ⟨kind, side, f, g⟩, 19)] else dstErr2 (sidesF a b side).1 ⟨kind, side, f, g⟩ := by
    intro f g
    have e1 : dstErr1 a b ⟨kind, side, f, g⟩ = 0 := by
      have b1 : inB (kind : Int) 0 2 = true := inB_iff.2 (by omega)
      have b2 : inB (side : Int) 0 1 = true := inB_iff.2 (by omega)
      simp only [dstErr1, orE, broken, h, b1, b2, if_true]
    rw [checkDst, if_pos e1]
  unfold rS2 dS2
  generalize hS : sidesF a b (side : Int) = S at *
  obtain ⟨own, other⟩ := S
  simp only at hl1 hl2 ce ⊢
  have hout : ∀ f g : Nat, own.length ≤ f → rS4 a b kind side f g = none := by
    intro f g hf
    have e2 : dstErr2 own ⟨kind, side, f, g⟩ = 6 := by
      have : inB (f : Int) 0 ((own.length : Int) - 1) = false := by
        rw [Bool.eq_false_iff]; intro hc; have := inB_iff.1 hc; omega
      simp only [dstErr2, broken, this, Bool.false_and, Bool.false_eq_true, if_false]
    simp only [rS4, ce, e2]; rfl
  have hin : ∀ f g : Nat, f < own.length → rS4 a b kind side f g = if g < secs kind own then dS4 own other kind side f g else none := by
    intro f g hf
    have b1 : inB (f : Int) 0 ((own.length : Int) - 1) = true := inB_iff.2 (by omega)
    by_cases hk2 : kind = 2
    · have b3 : decide ((kind : Int) = 2) = true := by simp; omega
      simp only [secs, hk2, if_true]
      by_cases hg : g < own.length
      · have b2 : inB (g : Int) 0 ((own.length : Int) - 1) = true := inB_iff.2 (by omega)
        rw [if_pos hg]
        subst hk2
        have e2 : dstErr2 own ⟨(2 : Nat), side, f, g⟩ = 0 := by simp only [dstErr2, broken, b1, b2, b3, Bool.or_true, Bool.true_and, Bool.true_or, if_true]
        simp only [rS4, ce, e2, if_true, dS4, broken]
        cases distB own other ⟨(2 : Nat), side, f, g⟩ <;> rfl
      · have b2 : inB (g : Int) 0 ((own.length : Int) - 1) = false := by
          rw [Bool.eq_false_iff]; intro hc; have := inB_iff.1 hc; omega
        rw [if_neg hg]
        subst hk2
        have e2 : dstErr2 own ⟨(2 : Nat), side, f, g⟩ = 6 := by simp only [dstErr2, broken, b1, b2, b3, Bool.not_true, Bool.or_false, Bool.and_false, Bool.false_eq_true, if_false]
        simp only [rS4, ce, e2]; rfl
    · have b3 : decide ((kind : Int) = 2) = false := by simp; omega
      simp only [secs, hk2, if_false]
      by_cases hg : g < 1
      · have hg0 : g = 0 := by omega
        subst hg0
        rw [if_pos (by decide)]
        have e2 : dstErr2 own ⟨kind, side, f, (0 : Nat)⟩ = 0 := by simp only [dstErr2, broken, b1, b3, Bool.not_false, Bool.true_or, Bool.and_true, if_true, Bool.false_or]; rfl
        simp only [rS4, ce, e2, if_true, dS4, broken]
        cases distB own other ⟨kind, side, f, (0 : Nat)⟩ <;> rfl
      · rw [if_neg hg]
        have b4 : decide ((g : Int) = 0) = false := by simp; omega
        have e2 : dstErr2 own ⟨kind, side, f, g⟩ = 3 := by simp only [dstErr2, broken, b1, b3, b4, Bool.not_false, Bool.true_or, Bool.and_true, if_true, Bool.or_false, Bool.false_eq_true, if_false]
        simp only [rS4, ce, e2]; rfl
  rw [show (8 : Nat) = own.length + (8 - own.length) by omega, srch_split]
  · refine srch_congr _ _ fun f _ hf => ?_
    have hf : f < own.length := by omega
    unfold rS3 dS3
    have hsec : secs kind own ≤ 8 := by unfold secs; split <;> omega
    rw [show (8 : Nat) = secs kind own + (8 - secs kind own) by omega, srch_split]
    · refine srch_congr _ _ fun g _ hg => ?_
      rw [hin f g hf, if_pos (by omega)]
    · intro g h1 h2
      rw [hin f g hf, if_neg (by omega)]
  · intro f h1 h2
    exact srch_none _ _ fun g _ _ => hout f g (by omega)
end Go.Proofs.Ytloecggdboingaa
