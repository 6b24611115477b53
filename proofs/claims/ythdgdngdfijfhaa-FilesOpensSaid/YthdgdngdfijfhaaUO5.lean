/- Part 5 of the proof: what the claim needs of the framework, the contracts of functions, and the laws. No conditions. -/
import Derived.Test.YthdgdngdfijfhaaUO4
import Derived.Test.YthdgdngdfijfhaaRows
namespace Go.Proofs.Ythdgdngdfijfhaa
open Go.RowKit Go.Proofs
set_option linter.unusedVariables false
set_option linter.unusedSimpArgs false
attribute [local irreducible] PPure CallN Tops TopsDm T
def sameT (a b : List (List UInt8)) (i : Nat) : Bool := decide ((a.length : Int) = (b.length : Int)) && (a.take i == b.take i)
theorem sameT_next {a b : List (List UInt8)} {i : Nat} (h : sameT a b i = false) : sameT a b (i + 1) = false := by
  unfold sameT at h ⊢
  cases hd : decide ((a.length : Int) = (b.length : Int)) with
  | false => rfl
  | true =>
    rw [hd] at h
    rw [Bool.true_and] at h ⊢
    simp only [beq_eq_false_iff_ne, ne_eq] at h ⊢
    intro e
    apply h
    have := congrArg (List.take i) e
    simpa [List.take_take, Nat.min_eq_left (Nat.le_succ i)] using this
theorem sameT_at {a b : List (List UInt8)} {i : Nat} {x y : List UInt8} (h : sameT a b i = true) (hx : a[i]? = some x) (hy : b[i]? = some y) : sameT a b (i + 1) = (x == y) := by
  unfold sameT at h ⊢
  simp only [Bool.and_eq_true, beq_iff_eq] at h
  rw [h.1, Bool.true_and, List.take_add_one, List.take_add_one, hx, hy, h.2]
  cases hb : (x == y) with
  | true => have := eq_of_beq hb; subst this; simp
  | false => simp only [beq_eq_false_iff_ne, ne_eq] at hb ⊢; intro e; apply hb; simpa using e
theorem sameT_end {a b : List (List UInt8)} : sameT a b a.length = (a == b) := by
  unfold sameT
  by_cases h : a.length = b.length
  · rw [decide_eq_true (by omega), Bool.true_and, List.take_length, h, List.take_length]
  · rw [decide_eq_false (by omega), Bool.false_and]
    symm
    simp only [beq_eq_false_iff_ne, ne_eq]
    exact fun e => h (by rw [e])
attribute [local go_sem] encS Int.toNat_natCast List.getElem?_map Option.map_some in
theorem p47 (a b : List (List UInt8)) (hl : a.length ≤ 1000) : PPure Try.prog 47 [.list .any (a.map encS), .list .any (b.map encS)] (.bool (a == b)) := by
  have h0 : sameT a b 0 = decide ((a.length : Int) = (b.length : Int)) := by simp [sameT]
  have hend := sameT_end (a := a) (b := b)
  (refine ppure_of_T ok47 (by simp only [List.length_cons, List.length_nil]; decide) ?_; refine t_seq ?_)
  (have hA := True.intro; have hP := True.intro; have hNE := True.intro; have hC := True.intro; repeat' first
      | with_reducible first | refine k_seq ?_ | refine t_seq ?_ | refine t_reg ?_ | refine t_nil ?_ | refine t_block ?_
      | refine ae_val ?_)
  refine t_loopX (fun (k0 : Nat) (E0 : Nat → PV) (H0 : Hp) => ∃ (i : Nat), i + k0 = a.length ∧ E0 5 = .bool (sameT a b i) ∧ E0 14 = .int .i64 (i : Int) ∧ H0 = hp []) (a.length) ?_ ?_
  intro Ng
  refine ⟨_, _, wkE_id, rowsok_nil, 0, (by first | omega | rfl | assumption | (simp (maxDischargeDepth := 8) only [go_sem, cast0, h0, hNE]; first | done | rfl | assumption | omega)), (by simp (maxDischargeDepth := 8) only [go_sem, cast0, h0, hNE, List.length_append, List.length_cons, List.length_nil, Nat.zero_add]; first | done | rfl), (by simp (maxDischargeDepth := 8) only [go_sem, cast0, h0, hNE, List.length_append, List.length_cons, List.length_nil, Nat.zero_add]; first | done | rfl), rfl⟩
  rintro k0 E0 H0 hfr0 ⟨i, hk, h0_5, h0_14, rfl⟩
  have e0_0 := hfr0 0 rfl; have e0_1 := hfr0 1 rfl; have e0_4 := hfr0 4 rfl; have e0_13 := hfr0 13 rfl
  simp (maxDischargeDepth := 8) only [go_sem, cast0, h0, hNE] at e0_0 e0_1 e0_4 e0_13
  clear hfr0
  by_cases hi : i < a.length
  · obtain ⟨x, hx, hdr⟩ := at_list hi
    have hlt := lt_int hi
    have hw := wrap_next hi hl
    have hge : (0 : Int) ≤ (i : Int) := by omega
    cases hst : sameT a b i with
    | false =>
      have hn := sameT_next hst
      (have hA := And.intro e0_0 (And.intro e0_1 (And.intro e0_4 (And.intro e0_13 (And.intro h0_5 (And.intro h0_14 (And.intro hlt (And.intro hge (And.intro hx (hst))))))))); have hP := True.intro; have hNE := True.intro; have hC := True.intro; repeat' first
          | ((with_reducible apply te_drwA); (focus (simp (maxDischargeDepth := 8) only [effFlA, List.map_cons, List.map_nil]; exact rfl)); (focus decide +kernel))
          | with_reducible first | refine k_seq ?_ | refine t_seq ?_ | refine t_reg ?_ | refine t_nil ?_ | refine t_skip ?_ | refine k_blk ?_ | refine t_block ?_ | refine m_nil ?_
          | refine ae_val ?_
          | refine be_val ?_
          | refine be_gval ?_
          | refine be_gno ?_
          | refine a_cond ?_ ?_
          | (with_reducible intro hc; with_reducible exact Bool.noConfusion hc)
          | (with_reducible intro hc; have hC := And.intro hC hc))
      refine k_invX (k0 - 1) (by omega) ?_
      intro Ng
      refine ⟨_, _, wkE_id, rowsok_nil, i + 1, (by first | omega | (simp only [List.length_append, List.length_cons, List.length_nil, List.length_drop, List.length_take, List.length_map]; omega)), (by simp (maxDischargeDepth := 8) only [go_sem, e0_0, e0_1, e0_4, e0_13, h0_5, h0_14, hw, hn, hNE, List.length_append, List.length_cons, List.length_nil, Nat.zero_add]; first | done | rfl), (by simp (maxDischargeDepth := 8) only [go_sem, e0_0, e0_1, e0_4, e0_13, h0_5, h0_14, hw, hn, hNE, List.length_append, List.length_cons, List.length_nil, Nat.zero_add]; first | done | rfl), rfl⟩
    | true =>
      have hbl : (a.length : Int) = (b.length : Int) := by
        unfold sameT at hst; simp at hst; omega
      obtain ⟨y, hy, hdr2⟩ := at_list (xs := b) (i := i) (by omega)
      have hlt2 : (i : Int) < (b.length : Int) := by omega
      have hn := sameT_at hst hx hy
      (have hA := And.intro e0_0 (And.intro e0_1 (And.intro e0_4 (And.intro e0_13 (And.intro h0_5 (And.intro h0_14 (And.intro hlt (And.intro hge (And.intro hx (And.intro hst (And.intro hy (hlt2))))))))))); have hP := True.intro; have hNE := True.intro; have hC := True.intro; repeat' first
          | ((with_reducible apply te_drwA); (focus (simp (maxDischargeDepth := 8) only [effFlA, List.map_cons, List.map_nil]; exact rfl)); (focus decide +kernel))
          | with_reducible first | refine k_seq ?_ | refine t_seq ?_ | refine t_reg ?_ | refine t_nil ?_ | refine t_skip ?_ | refine k_blk ?_ | refine t_block ?_ | refine m_nil ?_
          | refine ae_val ?_
          | refine be_val ?_
          | refine be_gval ?_
          | refine a_cond ?_ ?_
          | (with_reducible intro hc; with_reducible exact Bool.noConfusion hc)
          | (with_reducible intro hc; have hC := And.intro hC hc))
      refine k_invX (k0 - 1) (by omega) ?_
      intro Ng
      refine ⟨_, _, wkE_id, rowsok_nil, i + 1, (by first | omega | (simp only [List.length_append, List.length_cons, List.length_nil, List.length_drop, List.length_take, List.length_map]; omega)), (by simp (maxDischargeDepth := 8) only [go_sem, e0_0, e0_1, e0_4, e0_13, h0_5, h0_14, hw, hn, hNE, List.length_append, List.length_cons, List.length_nil, Nat.zero_add]; first | done | rfl), (by simp (maxDischargeDepth := 8) only [go_sem, e0_0, e0_1, e0_4, e0_13, h0_5, h0_14, hw, hn, hNE, List.length_append, List.length_cons, List.length_nil, Nat.zero_add]; first | done | rfl), rfl⟩
  · have hlt := nlt_int hi
    have hil : i = a.length := by omega
    subst hil
    (have hA := And.intro e0_0 (And.intro e0_1 (And.intro e0_4 (And.intro e0_13 (And.intro h0_5 (And.intro h0_14 (hlt)))))); have hP := True.intro; have hNE := True.intro; have hC := True.intro; repeat' first
        | with_reducible first | refine k_seq ?_ | refine t_seq ?_ | refine t_reg ?_ | refine t_nil ?_ | refine t_ret ?_ | refine t_exit ?_ | refine k_seq_exit ?_ | refine k_blk_exit ?_ | refine k_invX_exit ?_
        | refine ae_val ?_
        | refine a_cond ?_ ?_
        | (with_reducible intro hc; with_reducible exact Bool.noConfusion hc)
        | (with_reducible intro hc; have hC := And.intro hC hc))
    (first | apply pend rs47 | apply pendN rs47); (focus (simp only [go_sem, e0_0, e0_1, e0_4, e0_13, h0_5, h0_14, hend]; first | done | exact rfl)); (focus (simp only [go_sem, e0_0, e0_1, e0_4, e0_13, h0_5, h0_14, hend]; first | done | exact rfl))
theorem e_59 : flatEq Try.prog 59 = some [.i .i64, .s, .i .i64] := by kernel_rfl
theorem e_71 : flatEq Try.prog 71 = some [.i .i64, .i .i64, .s] := by kernel_rfl
attribute [go_sem] e_59 e_71 PV.ck cellsEq
end Go.Proofs.Ythdgdngdfijfhaa
namespace Go.Proofs.Ythdgdngdfijfhaa
open Go.RowKit Go.Proofs
set_option linter.unusedVariables false
set_option linter.unusedSimpArgs false
attribute [local irreducible] PPure CallN Tops TopsDm T
attribute [local go_sem] bne_self_eq_false beq_self_eq_true Bool.not_true encB Int.toNat_natCast List.getElem?_map Option.map_some in
theorem p19 (u : Un) (hl : u.recs.length ≤ 1000) (hl2 : u.there.length ≤ 1000) : PPure Try.prog 19 [encU u, encU u] (.bool true) := by
  have h1 : PPure Try.prog 47 [.list .any (u.recs.map encS), .list .any (u.recs.map encS)] (.bool true) := by
    have := p47 u.recs u.recs hl; simpa using this
  have e1 : ∀ a : Int, decide (¬ a = a) = false := fun a => by simp
  simp only [encU] at h1 ⊢
  (refine ppure_of_T ok19 (by simp only [List.length_cons, List.length_nil]; decide) ?_; refine t_seq ?_)
  (have hA := e1; have hP := And.intro h1 (True.intro); have hNE := True.intro; have hC := True.intro; repeat' first
      | with_reducible first | refine k_seq ?_ | refine t_seq ?_ | refine t_reg ?_ | refine t_nil ?_ | refine t_skip ?_ | refine t_block ?_
      | refine ae_val ?_
      | refine ae_gval ?_
      | refine ae_gcallS ?_
      | refine ae_box ?_
      | refine a_cond ?_ ?_
      | (with_reducible intro hc; with_reducible exact Bool.noConfusion hc)
      | (with_reducible intro hc; have hC := And.intro hC hc))
  refine t_loopX (fun (k0 : Nat) (E0 : Nat → PV) (H0 : Hp) => ∃ (i : Nat), i + k0 = u.there.length ∧ E0 5 = .int .i64 (i : Int) ∧ H0 = hp []) (u.there.length) ?_ ?_
  intro Ng
  refine ⟨_, _, wkE_id, rowsok_nil, 0, (by first | omega | rfl | assumption | (simp (maxDischargeDepth := 8) only [go_sem, cast0, hNE]; first | done | rfl | assumption | omega)), (by simp (maxDischargeDepth := 8) only [go_sem, cast0, hNE, List.length_append, List.length_cons, List.length_nil, Nat.zero_add]; first | done | rfl), rfl⟩
  rintro k0 E0 H0 hfr0 ⟨i, hk, h0_5, rfl⟩
  have e0_2 := hfr0 2 rfl; have e0_3 := hfr0 3 rfl
  simp (maxDischargeDepth := 8) only [go_sem, cast0, hNE] at e0_2 e0_3
  clear hfr0
  by_cases hi : i < u.there.length
  · obtain ⟨x, hx, hdr⟩ := at_list hi
    have hlt := lt_int hi
    have hw := wrap_next hi hl2
    have hge : (0 : Int) ≤ (i : Int) := by omega
    (have hA := And.intro e0_2 (And.intro e0_3 (And.intro h0_5 (And.intro hlt (And.intro hge (hx))))); have hP := True.intro; have hNE := True.intro; have hC := True.intro; repeat' first
        | ((with_reducible apply te_drwA); (focus (simp (maxDischargeDepth := 8) only [effFlA, List.map_cons, List.map_nil]; exact rfl)); (focus decide +kernel))
        | with_reducible first | refine k_seq ?_ | refine t_seq ?_ | refine t_reg ?_ | refine t_nil ?_ | refine t_skip ?_ | refine k_blk ?_ | refine t_block ?_ | refine m_nil ?_
        | refine ae_val ?_
        | refine be_val ?_
        | refine a_cond ?_ ?_
        | (with_reducible intro hc; with_reducible exact Bool.noConfusion hc)
        | (with_reducible intro hc; have hC := And.intro hC hc))
    refine k_invX (k0 - 1) (by omega) ?_
    intro Ng
    refine ⟨_, _, wkE_id, rowsok_nil, i + 1, (by first | omega | (simp only [List.length_append, List.length_cons, List.length_nil, List.length_drop, List.length_take, List.length_map]; omega)), (by simp (maxDischargeDepth := 8) only [go_sem, e0_2, e0_3, h0_5, hw, hNE, List.length_append, List.length_cons, List.length_nil, Nat.zero_add]; first | done | rfl), rfl⟩
  · have hlt := nlt_int hi
    (have hA := And.intro e0_2 (And.intro e0_3 (And.intro h0_5 (hlt))); have hP := True.intro; have hNE := True.intro; have hC := True.intro; repeat' first
        | with_reducible first | refine k_seq ?_ | refine t_seq ?_ | refine t_reg ?_ | refine t_nil ?_ | refine t_ret ?_ | refine t_exit ?_ | refine k_seq_exit ?_ | refine k_blk_exit ?_ | refine k_invX_exit ?_
        | refine ae_val ?_
        | refine a_cond ?_ ?_
        | (with_reducible intro hc; with_reducible exact Bool.noConfusion hc)
        | (with_reducible intro hc; have hC := And.intro hC hc))
    (first | apply pend rs19 | apply pendN rs19); (focus (simp only [go_sem, e0_2, e0_3, h0_5]; first | done | exact rfl)); (focus (simp only [go_sem, e0_2, e0_3, h0_5]; first | done | exact rfl))
end Go.Proofs.Ythdgdngdfijfhaa
namespace Go.Proofs.Ythdgdngdfijfhaa
open Go.RowKit Go.Proofs
set_option linter.unusedVariables false
set_option linter.unusedSimpArgs false
attribute [local irreducible] PPure CallN Tops TopsDm T
theorem take_in {α : Type} {l : List α} {i : Nat} (hi : i < l.length) : l.take (i + 1) = l.take i ++ [l[i]] := by
  rw [List.take_add_one, List.getElem?_eq_getElem hi]; rfl
end Go.Proofs.Ythdgdngdfijfhaa
namespace Go.Proofs.Ythdgdngdfijfhaa
open Go.RowKit Go.Proofs
set_option linter.unusedVariables false
set_option linter.unusedSimpArgs false
attribute [local irreducible] PPure CallN
theorem leB_numL : ∀ s : List UInt8, leB (numL s) s.length = s
  | [] => rfl
  | c :: r => by
    have hc := c.toNat_lt
    have h1 : (c.toNat + 256 * numL r) % 256 = c.toNat := by omega
    have h2 : (c.toNat + 256 * numL r) / 256 = numL r := by omega
    simp only [numL, List.length_cons, leB, h1, h2, leB_numL r]
    simp
theorem numL_leB : ∀ (k n : Nat), n < 256 ^ k → numL (leB n k) = n
  | 0, n, h => by simp [leB, numL]; omega
  | k + 1, n, h => by
    have h1 := numL_leB k (n / 256) (by rw [Nat.pow_succ] at h; omega)
    have h2 : (UInt8.ofNat (n % 256)).toNat = n % 256 := by simp
    simp only [leB, numL, h1, h2]; omega
theorem frm_parts (t : List UInt8) (k : UInt8) (n : Nat) (h0 : t[0]? = some k) (hn : numL ((t.take 4).drop 1) = n) (hl : n + 8 ≤ t.length) :
    (t.take (n + 8) == frmF k ((t.take (n + 4)).drop 4)) = decide (numL ((t.drop (n + 4)).take 4) = sumF (t.take (n + 4))) := by
  have r1 : ((t.take (n + 4)).drop 4).length = n := by simp; omega
  have r2 : leB n 3 = (t.take 4).drop 1 := by
    have := leB_numL ((t.take 4).drop 1)
    rw [hn, show ((t.take 4).drop 1).length = 3 by simp; omega] at this
    exact this
  have r3 : [k] ++ (t.take 4).drop 1 = t.take 4 := by
    cases t with
    | nil => simp at h0
    | cons c r => simp at h0; subst h0; simp
  have r4 : t.take 4 ++ (t.take (n + 4)).drop 4 = t.take (n + 4) := by
    have := List.take_append_drop 4 (t.take (n + 4))
    rwa [List.take_take, show min 4 (n + 4) = 4 by omega] at this
  have r5 : frmF k ((t.take (n + 4)).drop 4) = t.take (n + 4) ++ leB (sumF (t.take (n + 4))) 4 := by
    rw [frmF, r1, r2, r3, r4, smdF, List.nil_append]
  have r6 : t.take (n + 8) = t.take (n + 4) ++ (t.drop (n + 4)).take 4 := by
    rw [show n + 8 = (n + 4) + 4 by omega, List.take_add]
  rw [r5, r6]
  have hs := sumF_lt (t.take (n + 4))
  have r7 : ((t.drop (n + 4)).take 4).length = 4 := by simp; omega
  by_cases e : numL ((t.drop (n + 4)).take 4) = sumF (t.take (n + 4))
  · have h1 := leB_numL ((t.drop (n + 4)).take 4)
    rw [r7, e] at h1
    rw [h1]; simp [e]
  · have h1 : ¬ (t.drop (n + 4)).take 4 = leB (sumF (t.take (n + 4))) 4 := fun h => e (by rw [h]; exact numL_leB 4 _ (by omega))
    simp [e, h1]
end Go.Proofs.Ythdgdngdfijfhaa
namespace Go.Proofs.Ythdgdngdfijfhaa
open Go.RowKit Go.Proofs
set_option linter.unusedVariables false
set_option linter.unusedSimpArgs false
attribute [local irreducible] PPure CallN Tops TopsDm T
def frG (s : List UInt8) (a : Nat) : (Nat × List UInt8) × Bool :=
  if (nextF (s.drop a)).ok = true then (((nextF (s.drop a)).kind, (nextF (s.drop a)).rcd), true) else ((0, []), false)
theorem frG_short {s : List UInt8} {a : Nat} (h : s.length < a + 4) : frG s a = ((0, []), false) := by
  have h1 : (s.drop a).length < 8 := by simp; omega
  have : (nextF (s.drop a)).ok = false := by
    unfold nextF
    split
    · rfl
    · simp only [h1, if_true]; rfl
  rw [frG, this]; rfl
theorem frG_eq {s : List UInt8} {a : Nat} (h : a + 4 ≤ s.length) (n : Nat) (hn : numAt s (a + 1) 3 = n) (k : UInt8) (hk : s[a]? = some k) : frG s a =
    if (¬ k.toNat = 82 ∧ ¬ k.toNat = 69) ∨ (k.toNat = 69 ∧ 0 < n) ∨ 200 < n ∨ s.length < a + 4 + n + 4 then ((0, []), false)
    else if numAt s (a + 4 + n) 4 = sumF ((s.take (a + 4 + n)).drop a) then ((k.toNat, (s.take (a + 4 + n)).drop (a + 4)), true) else ((0, []), false) := by
  have hn2 : numL (((s.drop a).take 4).drop 1) = n := by
    rw [← hn, numAt, List.drop_take, List.drop_drop]
  have hk0 : (s.drop a)[0]? = some k := by simpa using hk
  have dl : (s.drop a).length = s.length - a := List.length_drop
  have hx : nextF (s.drop a) = if (s.drop a).length < 8 then noF (s.drop a) else if badK k n = true then noF (s.drop a) else if (s.drop a).length < n + 8 then noF (s.drop a)
    else ⟨((s.drop a).take (n + 4)).drop 4, k.toNat, (s.drop a).drop (n + 8), (s.drop a).take (n + 8) == frmF k (((s.drop a).take (n + 4)).drop 4)⟩ := by
    unfold nextF
    rw [hk0]
    simp only [hn2]
  have nof : (noF (s.drop a)).ok = false := rfl
  unfold frG
  by_cases hb : (¬ k.toNat = 82 ∧ ¬ k.toNat = 69) ∨ (k.toNat = 69 ∧ 0 < n) ∨ 200 < n ∨ s.length < a + 4 + n + 4
  · rw [if_pos hb]
    have : (nextF (s.drop a)).ok = false := by
      rw [hx]
      by_cases h8 : (s.drop a).length < 8
      · rw [if_pos h8]; rfl
      rw [if_neg h8]
      by_cases hq : badK k n = true
      · rw [if_pos hq]; rfl
      rw [if_neg hq]
      have hq2 : (s.drop a).length < n + 8 := by
        simp [badK] at hq
        omega
      rw [if_pos hq2]; rfl
    rw [this]; rfl
  · rw [if_neg hb]
    have hq : ¬ badK k n = true := by simp [badK]; omega
    rw [if_neg (by omega), if_neg hq, if_neg (by omega)] at hx
    have hf := frm_parts (s.drop a) k n hk0 hn2 (by omega)
    have e1 : numL (((s.drop a).drop (n + 4)).take 4) = numAt s (a + 4 + n) 4 := by
      rw [numAt, List.drop_drop, show a + (n + 4) = a + 4 + n by omega]
    have e2 : (s.drop a).take (n + 4) = (s.take (a + 4 + n)).drop a := by
      rw [List.drop_take, show a + 4 + n - a = n + 4 by omega]
    have e3 : ((s.drop a).take (n + 4)).drop 4 = (s.take (a + 4 + n)).drop (a + 4) := by
      rw [e2, List.drop_drop]
    rw [hf, e1, e2] at hx
    rw [hx]
    simp only [decide_eq_true_eq]
    by_cases he : numAt s (a + 4 + n) 4 = sumF ((s.take (a + 4 + n)).drop a)
    · rw [if_pos he, if_pos he, ← e2, e3]
    · rw [if_neg he, if_neg he]
set_option maxHeartbeats 8000000 in
theorem p66 (s : List UInt8) (a : Nat) (hl : s.length ≤ 30000) (ha : a ≤ 100000) :
    PPure Try.prog 66 [.str s, .int .i64 (a : Int)] (.tup [.int .u8 ((frG s a).1.1 : Int), .str (frG s a).1.2, .bool (frG s a).2]) := by
  by_cases h4 : s.length < a + 4
  · rw [frG_short h4]
    (refine ppure_of_T ok66 (by simp only [List.length_cons, List.length_nil]; decide) ?_; refine t_seq ?_)
    have hNE := True.intro; have hC := True.intro; have hA := True.intro; have hP := True.intro
    (replace hA := True.intro; replace hP := True.intro; repeat' first | ((with_reducible apply gt_call); first | refine ce_callS ?_ | refine ce_callO ?_) | ((with_reducible apply gd_gcall); first | refine de_gcallS ?_ | ((with_reducible apply me_gcallO); exact rfl; (focus (simp (maxDischargeDepth := 8) (disch := first | (with_reducible apply Om.mk; first | (simp (maxDischargeDepth := 8) only [go_sem, hNE, hA]; done) | (clear hP hC hNE hA; first | omega | (simp only [List.length_append, List.length_take, List.length_drop, List.length_map, List.length_replicate]; omega))) | (simp (maxDischargeDepth := 8) only [go_sem, hNE, hA]; done) | fail) only [go_sem, hNE, hA]; first | done | exact rfl)); (focus (simp (maxDischargeDepth := 8) (disch := first | (with_reducible apply Om.mk; first | (simp (maxDischargeDepth := 8) only [go_sem, hNE, hA]; done) | (clear hP hC hNE hA; first | omega | (simp only [List.length_append, List.length_take, List.length_drop, List.length_map, List.length_replicate]; omega))) | (simp (maxDischargeDepth := 8) only [go_sem, hNE, hA]; done) | fail) only [go_sem, hNE, hA]; first | done | exact rfl)); (focus (intro hG; simp (maxDischargeDepth := 8) (disch := first | (with_reducible apply Om.mk; first | (simp (maxDischargeDepth := 8) only [go_sem, hNE, hA]; done) | (clear hP hC hNE hA; first | omega | (simp only [List.length_append, List.length_take, List.length_drop, List.length_map, List.length_replicate]; omega))) | (simp (maxDischargeDepth := 8) only [go_sem, hNE, hA]; done) | fail) only [go_sem, hNE, hA, hG]; first | done | exact rfl)); (focus (intro hG; simp (maxDischargeDepth := 8) (disch := first | (with_reducible apply Om.mk; first | (simp (maxDischargeDepth := 8) only [go_sem, hNE, hA]; done) | (clear hP hC hNE hA; first | omega | (simp only [List.length_append, List.length_take, List.length_drop, List.length_map, List.length_replicate]; omega))) | (simp (maxDischargeDepth := 8) only [go_sem, hNE, hA]; done) | fail) only [go_sem, hNE, hA, hG]; first | done | exact rfl)); (intro hG; fail); exact rfl) | ((with_reducible apply me_gcall2); exact rfl; (focus (simp (maxDischargeDepth := 8) (disch := first | (with_reducible apply Om.mk; first | (simp (maxDischargeDepth := 8) only [go_sem, hNE, hA]; done) | (clear hP hC hNE hA; first | omega | (simp only [List.length_append, List.length_take, List.length_drop, List.length_map, List.length_replicate]; omega))) | (simp (maxDischargeDepth := 8) only [go_sem, hNE, hA]; done) | fail) only [go_sem, hNE, hA]; first | done | exact rfl)); (focus (simp (maxDischargeDepth := 8) (disch := first | (with_reducible apply Om.mk; first | (simp (maxDischargeDepth := 8) only [go_sem, hNE, hA]; done) | (clear hP hC hNE hA; first | omega | (simp only [List.length_append, List.length_take, List.length_drop, List.length_map, List.length_replicate]; omega))) | (simp (maxDischargeDepth := 8) only [go_sem, hNE, hA]; done) | fail) only [go_sem, hNE, hA]; first | done | exact rfl)); (focus (intro hG hG2; simp (maxDischargeDepth := 8) (disch := first | (with_reducible apply Om.mk; first | (simp (maxDischargeDepth := 8) only [go_sem, hNE, hA]; done) | (clear hP hC hNE hA; first | omega | (simp only [List.length_append, List.length_take, List.length_drop, List.length_map, List.length_replicate]; omega))) | (simp (maxDischargeDepth := 8) only [go_sem, hNE, hA]; done) | fail) only [go_sem, hNE, hA, hG, hG2]; first | done | exact rfl)); (focus (simp (maxDischargeDepth := 8) (disch := first | (with_reducible apply Om.mk; first | (simp (maxDischargeDepth := 8) only [go_sem, hNE, hA]; done) | (clear hP hC hNE hA; first | omega | (simp only [List.length_append, List.length_take, List.length_drop, List.length_map, List.length_replicate]; omega))) | (simp (maxDischargeDepth := 8) only [go_sem, hNE, hA]; done) | fail) only [go_sem, hNE, hA]; done)); (intro hG hG2; fail)) | refine de_gno ?_ | refine de_gskip ?_ | refine de_gno2 ?_) | ((with_reducible apply gd_g); first | refine de_gval ?_ | refine de_gno ?_ | refine de_gskip ?_ | refine de_gval2 ?_ | refine de_gno2 ?_) | ((with_reducible apply gt_cond); first | refine c_cond ?_ ?_ | refine c_condB ?_ ?_) | ((with_reducible apply gt_any); refine ce_val ?_) | ((with_reducible apply gd_any); refine de_val ?_) | ((with_reducible apply gt_drw); first | refine ce_drwA ?_ | refine ce_drwE ?_ | refine ce_drwK ?_ | refine ce_drwZ ?_) | with_reducible first | refine k_seq ?_ | refine t_seq ?_ | refine t_reg ?_ | refine t_nil ?_ | refine t_skip ?_ | refine t_ret ?_ | refine t_exit ?_ | refine k_seq_exit ?_ | refine k_seq_ret ?_ | refine k_blk_exit ?_ | refine k_blk_other (by decide) ?_ | refine k_blk_ret ?_ | refine k_blk ?_ | refine t_block ?_ | refine m_nil ?_ | (with_reducible intro hc; with_reducible exact Bool.noConfusion hc) | (with_reducible intro hc la ha hn1; replace hNE := And.intro hNE hn1) | (with_reducible intro hc; replace hC := And.intro hC hc))
    all_goals ((first | refine cpendE rs66 ?_ | refine cpendNE rs66 ?_); ((try simp only [cast0]) <;> exact fin_eq))
  have hlt : a < s.length := by omega
  obtain ⟨n, hn⟩ : ∃ n, numAt s (a + 1) 3 = n := ⟨_, rfl⟩
  have h1 := p96 s (a + 1) 3 (by omega) (by omega) (by omega)
  have hnl : n < 16777216 := by
    have := numL_lt ((s.drop (a + 1)).take 3)
    have hlen : ((s.drop (a + 1)).take 3).length = 3 := by simp; omega
    rw [hlen] at this; rw [← hn]; exact this
  rw [hn] at h1
  rw [frG_eq (by omega) n hn s[a] (List.getElem?_eq_getElem hlt)]
  have hul := s[a].toNat_lt
  by_cases hb : (¬ s[a].toNat = 82 ∧ ¬ s[a].toNat = 69) ∨ (s[a].toNat = 69 ∧ 0 < n) ∨ 200 < n ∨ s.length < a + 4 + n + 4
  · rw [if_pos hb]
    by_cases hk : ¬ s[a].toNat = 82 ∧ ¬ s[a].toNat = 69
    · (refine ppure_of_T ok66 (by simp only [List.length_cons, List.length_nil]; decide) ?_; refine t_seq ?_)
      have hNE := True.intro; have hC := True.intro; have hA := True.intro; have hP := True.intro
      (replace hA := True.intro; replace hP := And.intro h1 (True.intro); repeat' first | ((with_reducible apply gt_call); first | refine ce_callS ?_ | refine ce_callO ?_) | ((with_reducible apply gd_gcall); first | refine de_gcallS ?_ | ((with_reducible apply me_gcallO); exact rfl; (focus (simp (maxDischargeDepth := 8) (disch := first | (with_reducible apply Om.mk; first | (simp (maxDischargeDepth := 8) only [go_sem, hNE, hA]; done) | (clear hP hC hNE hA; first | omega | (simp only [List.length_append, List.length_take, List.length_drop, List.length_map, List.length_replicate]; omega))) | (simp (maxDischargeDepth := 8) only [go_sem, hNE, hA]; done) | fail) only [go_sem, hNE, hA]; first | done | exact rfl)); (focus (simp (maxDischargeDepth := 8) (disch := first | (with_reducible apply Om.mk; first | (simp (maxDischargeDepth := 8) only [go_sem, hNE, hA]; done) | (clear hP hC hNE hA; first | omega | (simp only [List.length_append, List.length_take, List.length_drop, List.length_map, List.length_replicate]; omega))) | (simp (maxDischargeDepth := 8) only [go_sem, hNE, hA]; done) | fail) only [go_sem, hNE, hA]; first | done | exact rfl)); (focus (intro hG; simp (maxDischargeDepth := 8) (disch := first | (with_reducible apply Om.mk; first | (simp (maxDischargeDepth := 8) only [go_sem, hNE, hA]; done) | (clear hP hC hNE hA; first | omega | (simp only [List.length_append, List.length_take, List.length_drop, List.length_map, List.length_replicate]; omega))) | (simp (maxDischargeDepth := 8) only [go_sem, hNE, hA]; done) | fail) only [go_sem, hNE, hA, hG]; first | done | exact rfl)); (focus (intro hG; simp (maxDischargeDepth := 8) (disch := first | (with_reducible apply Om.mk; first | (simp (maxDischargeDepth := 8) only [go_sem, hNE, hA]; done) | (clear hP hC hNE hA; first | omega | (simp only [List.length_append, List.length_take, List.length_drop, List.length_map, List.length_replicate]; omega))) | (simp (maxDischargeDepth := 8) only [go_sem, hNE, hA]; done) | fail) only [go_sem, hNE, hA, hG]; first | done | exact rfl)); (intro hG; first | exact h1); exact rfl) | ((with_reducible apply me_gcall2); exact rfl; (focus (simp (maxDischargeDepth := 8) (disch := first | (with_reducible apply Om.mk; first | (simp (maxDischargeDepth := 8) only [go_sem, hNE, hA]; done) | (clear hP hC hNE hA; first | omega | (simp only [List.length_append, List.length_take, List.length_drop, List.length_map, List.length_replicate]; omega))) | (simp (maxDischargeDepth := 8) only [go_sem, hNE, hA]; done) | fail) only [go_sem, hNE, hA]; first | done | exact rfl)); (focus (simp (maxDischargeDepth := 8) (disch := first | (with_reducible apply Om.mk; first | (simp (maxDischargeDepth := 8) only [go_sem, hNE, hA]; done) | (clear hP hC hNE hA; first | omega | (simp only [List.length_append, List.length_take, List.length_drop, List.length_map, List.length_replicate]; omega))) | (simp (maxDischargeDepth := 8) only [go_sem, hNE, hA]; done) | fail) only [go_sem, hNE, hA]; first | done | exact rfl)); (focus (intro hG hG2; simp (maxDischargeDepth := 8) (disch := first | (with_reducible apply Om.mk; first | (simp (maxDischargeDepth := 8) only [go_sem, hNE, hA]; done) | (clear hP hC hNE hA; first | omega | (simp only [List.length_append, List.length_take, List.length_drop, List.length_map, List.length_replicate]; omega))) | (simp (maxDischargeDepth := 8) only [go_sem, hNE, hA]; done) | fail) only [go_sem, hNE, hA, hG, hG2]; first | done | exact rfl)); (focus (simp (maxDischargeDepth := 8) (disch := first | (with_reducible apply Om.mk; first | (simp (maxDischargeDepth := 8) only [go_sem, hNE, hA]; done) | (clear hP hC hNE hA; first | omega | (simp only [List.length_append, List.length_take, List.length_drop, List.length_map, List.length_replicate]; omega))) | (simp (maxDischargeDepth := 8) only [go_sem, hNE, hA]; done) | fail) only [go_sem, hNE, hA]; done)); (intro hG hG2; first | exact h1)) | refine de_gno ?_ | refine de_gskip ?_ | refine de_gno2 ?_) | ((with_reducible apply gd_g); first | refine de_gval ?_ | refine de_gno ?_ | refine de_gskip ?_ | refine de_gval2 ?_ | refine de_gno2 ?_) | ((with_reducible apply gt_cond); first | refine c_cond ?_ ?_ | refine c_condB ?_ ?_) | ((with_reducible apply gt_any); refine ce_val ?_) | ((with_reducible apply gd_any); refine de_val ?_) | ((with_reducible apply gt_drw); first | refine ce_drwA ?_ | refine ce_drwE ?_ | refine ce_drwK ?_ | refine ce_drwZ ?_) | with_reducible first | refine k_seq ?_ | refine t_seq ?_ | refine t_reg ?_ | refine t_nil ?_ | refine t_skip ?_ | refine t_ret ?_ | refine t_exit ?_ | refine k_seq_exit ?_ | refine k_seq_ret ?_ | refine k_blk_exit ?_ | refine k_blk_other (by decide) ?_ | refine k_blk_ret ?_ | refine k_blk ?_ | refine t_block ?_ | refine m_nil ?_ | (with_reducible intro hc; with_reducible exact Bool.noConfusion hc) | (with_reducible intro hc la ha hn1; replace hNE := And.intro hNE hn1) | (with_reducible intro hc; replace hC := And.intro hC hc))
      all_goals ((first | refine cpendE rs66 ?_ | refine cpendNE rs66 ?_); ((try simp only [cast0]) <;> exact fin_eq))
    by_cases hk2 : s[a].toNat = 69
    · by_cases hn0 : 0 < n
      · (refine ppure_of_T ok66 (by simp only [List.length_cons, List.length_nil]; decide) ?_; refine t_seq ?_)
        have hNE := True.intro; have hC := True.intro; have hA := True.intro; have hP := True.intro
        (replace hA := True.intro; replace hP := And.intro h1 (True.intro); repeat' first | ((with_reducible apply gt_call); first | refine ce_callS ?_ | refine ce_callO ?_) | ((with_reducible apply gd_gcall); first | refine de_gcallS ?_ | ((with_reducible apply me_gcallO); exact rfl; (focus (simp (maxDischargeDepth := 8) (disch := first | (with_reducible apply Om.mk; first | (simp (maxDischargeDepth := 8) only [go_sem, hNE, hA]; done) | (clear hP hC hNE hA; first | omega | (simp only [List.length_append, List.length_take, List.length_drop, List.length_map, List.length_replicate]; omega))) | (simp (maxDischargeDepth := 8) only [go_sem, hNE, hA]; done) | fail) only [go_sem, hNE, hA]; first | done | exact rfl)); (focus (simp (maxDischargeDepth := 8) (disch := first | (with_reducible apply Om.mk; first | (simp (maxDischargeDepth := 8) only [go_sem, hNE, hA]; done) | (clear hP hC hNE hA; first | omega | (simp only [List.length_append, List.length_take, List.length_drop, List.length_map, List.length_replicate]; omega))) | (simp (maxDischargeDepth := 8) only [go_sem, hNE, hA]; done) | fail) only [go_sem, hNE, hA]; first | done | exact rfl)); (focus (intro hG; simp (maxDischargeDepth := 8) (disch := first | (with_reducible apply Om.mk; first | (simp (maxDischargeDepth := 8) only [go_sem, hNE, hA]; done) | (clear hP hC hNE hA; first | omega | (simp only [List.length_append, List.length_take, List.length_drop, List.length_map, List.length_replicate]; omega))) | (simp (maxDischargeDepth := 8) only [go_sem, hNE, hA]; done) | fail) only [go_sem, hNE, hA, hG]; first | done | exact rfl)); (focus (intro hG; simp (maxDischargeDepth := 8) (disch := first | (with_reducible apply Om.mk; first | (simp (maxDischargeDepth := 8) only [go_sem, hNE, hA]; done) | (clear hP hC hNE hA; first | omega | (simp only [List.length_append, List.length_take, List.length_drop, List.length_map, List.length_replicate]; omega))) | (simp (maxDischargeDepth := 8) only [go_sem, hNE, hA]; done) | fail) only [go_sem, hNE, hA, hG]; first | done | exact rfl)); (intro hG; first | exact h1); exact rfl) | ((with_reducible apply me_gcall2); exact rfl; (focus (simp (maxDischargeDepth := 8) (disch := first | (with_reducible apply Om.mk; first | (simp (maxDischargeDepth := 8) only [go_sem, hNE, hA]; done) | (clear hP hC hNE hA; first | omega | (simp only [List.length_append, List.length_take, List.length_drop, List.length_map, List.length_replicate]; omega))) | (simp (maxDischargeDepth := 8) only [go_sem, hNE, hA]; done) | fail) only [go_sem, hNE, hA]; first | done | exact rfl)); (focus (simp (maxDischargeDepth := 8) (disch := first | (with_reducible apply Om.mk; first | (simp (maxDischargeDepth := 8) only [go_sem, hNE, hA]; done) | (clear hP hC hNE hA; first | omega | (simp only [List.length_append, List.length_take, List.length_drop, List.length_map, List.length_replicate]; omega))) | (simp (maxDischargeDepth := 8) only [go_sem, hNE, hA]; done) | fail) only [go_sem, hNE, hA]; first | done | exact rfl)); (focus (intro hG hG2; simp (maxDischargeDepth := 8) (disch := first | (with_reducible apply Om.mk; first | (simp (maxDischargeDepth := 8) only [go_sem, hNE, hA]; done) | (clear hP hC hNE hA; first | omega | (simp only [List.length_append, List.length_take, List.length_drop, List.length_map, List.length_replicate]; omega))) | (simp (maxDischargeDepth := 8) only [go_sem, hNE, hA]; done) | fail) only [go_sem, hNE, hA, hG, hG2]; first | done | exact rfl)); (focus (simp (maxDischargeDepth := 8) (disch := first | (with_reducible apply Om.mk; first | (simp (maxDischargeDepth := 8) only [go_sem, hNE, hA]; done) | (clear hP hC hNE hA; first | omega | (simp only [List.length_append, List.length_take, List.length_drop, List.length_map, List.length_replicate]; omega))) | (simp (maxDischargeDepth := 8) only [go_sem, hNE, hA]; done) | fail) only [go_sem, hNE, hA]; done)); (intro hG hG2; first | exact h1)) | refine de_gno ?_ | refine de_gskip ?_ | refine de_gno2 ?_) | ((with_reducible apply gd_g); first | refine de_gval ?_ | refine de_gno ?_ | refine de_gskip ?_ | refine de_gval2 ?_ | refine de_gno2 ?_) | ((with_reducible apply gt_cond); first | refine c_cond ?_ ?_ | refine c_condB ?_ ?_) | ((with_reducible apply gt_any); refine ce_val ?_) | ((with_reducible apply gd_any); refine de_val ?_) | ((with_reducible apply gt_drw); first | refine ce_drwA ?_ | refine ce_drwE ?_ | refine ce_drwK ?_ | refine ce_drwZ ?_) | with_reducible first | refine k_seq ?_ | refine t_seq ?_ | refine t_reg ?_ | refine t_nil ?_ | refine t_skip ?_ | refine t_ret ?_ | refine t_exit ?_ | refine k_seq_exit ?_ | refine k_seq_ret ?_ | refine k_blk_exit ?_ | refine k_blk_other (by decide) ?_ | refine k_blk_ret ?_ | refine k_blk ?_ | refine t_block ?_ | refine m_nil ?_ | (with_reducible intro hc; with_reducible exact Bool.noConfusion hc) | (with_reducible intro hc la ha hn1; replace hNE := And.intro hNE hn1) | (with_reducible intro hc; replace hC := And.intro hC hc))
        all_goals ((first | refine cpendE rs66 ?_ | refine cpendNE rs66 ?_); ((try simp only [cast0]) <;> exact fin_eq))
      · (refine ppure_of_T ok66 (by simp only [List.length_cons, List.length_nil]; decide) ?_; refine t_seq ?_)
        have hNE := True.intro; have hC := True.intro; have hA := True.intro; have hP := True.intro
        (replace hA := True.intro; replace hP := And.intro h1 (True.intro); repeat' first | ((with_reducible apply gt_call); first | refine ce_callS ?_ | refine ce_callO ?_) | ((with_reducible apply gd_gcall); first | refine de_gcallS ?_ | ((with_reducible apply me_gcallO); exact rfl; (focus (simp (maxDischargeDepth := 8) (disch := first | (with_reducible apply Om.mk; first | (simp (maxDischargeDepth := 8) only [go_sem, hNE, hA]; done) | (clear hP hC hNE hA; first | omega | (simp only [List.length_append, List.length_take, List.length_drop, List.length_map, List.length_replicate]; omega))) | (simp (maxDischargeDepth := 8) only [go_sem, hNE, hA]; done) | fail) only [go_sem, hNE, hA]; first | done | exact rfl)); (focus (simp (maxDischargeDepth := 8) (disch := first | (with_reducible apply Om.mk; first | (simp (maxDischargeDepth := 8) only [go_sem, hNE, hA]; done) | (clear hP hC hNE hA; first | omega | (simp only [List.length_append, List.length_take, List.length_drop, List.length_map, List.length_replicate]; omega))) | (simp (maxDischargeDepth := 8) only [go_sem, hNE, hA]; done) | fail) only [go_sem, hNE, hA]; first | done | exact rfl)); (focus (intro hG; simp (maxDischargeDepth := 8) (disch := first | (with_reducible apply Om.mk; first | (simp (maxDischargeDepth := 8) only [go_sem, hNE, hA]; done) | (clear hP hC hNE hA; first | omega | (simp only [List.length_append, List.length_take, List.length_drop, List.length_map, List.length_replicate]; omega))) | (simp (maxDischargeDepth := 8) only [go_sem, hNE, hA]; done) | fail) only [go_sem, hNE, hA, hG]; first | done | exact rfl)); (focus (intro hG; simp (maxDischargeDepth := 8) (disch := first | (with_reducible apply Om.mk; first | (simp (maxDischargeDepth := 8) only [go_sem, hNE, hA]; done) | (clear hP hC hNE hA; first | omega | (simp only [List.length_append, List.length_take, List.length_drop, List.length_map, List.length_replicate]; omega))) | (simp (maxDischargeDepth := 8) only [go_sem, hNE, hA]; done) | fail) only [go_sem, hNE, hA, hG]; first | done | exact rfl)); (intro hG; first | exact h1); exact rfl) | ((with_reducible apply me_gcall2); exact rfl; (focus (simp (maxDischargeDepth := 8) (disch := first | (with_reducible apply Om.mk; first | (simp (maxDischargeDepth := 8) only [go_sem, hNE, hA]; done) | (clear hP hC hNE hA; first | omega | (simp only [List.length_append, List.length_take, List.length_drop, List.length_map, List.length_replicate]; omega))) | (simp (maxDischargeDepth := 8) only [go_sem, hNE, hA]; done) | fail) only [go_sem, hNE, hA]; first | done | exact rfl)); (focus (simp (maxDischargeDepth := 8) (disch := first | (with_reducible apply Om.mk; first | (simp (maxDischargeDepth := 8) only [go_sem, hNE, hA]; done) | (clear hP hC hNE hA; first | omega | (simp only [List.length_append, List.length_take, List.length_drop, List.length_map, List.length_replicate]; omega))) | (simp (maxDischargeDepth := 8) only [go_sem, hNE, hA]; done) | fail) only [go_sem, hNE, hA]; first | done | exact rfl)); (focus (intro hG hG2; simp (maxDischargeDepth := 8) (disch := first | (with_reducible apply Om.mk; first | (simp (maxDischargeDepth := 8) only [go_sem, hNE, hA]; done) | (clear hP hC hNE hA; first | omega | (simp only [List.length_append, List.length_take, List.length_drop, List.length_map, List.length_replicate]; omega))) | (simp (maxDischargeDepth := 8) only [go_sem, hNE, hA]; done) | fail) only [go_sem, hNE, hA, hG, hG2]; first | done | exact rfl)); (focus (simp (maxDischargeDepth := 8) (disch := first | (with_reducible apply Om.mk; first | (simp (maxDischargeDepth := 8) only [go_sem, hNE, hA]; done) | (clear hP hC hNE hA; first | omega | (simp only [List.length_append, List.length_take, List.length_drop, List.length_map, List.length_replicate]; omega))) | (simp (maxDischargeDepth := 8) only [go_sem, hNE, hA]; done) | fail) only [go_sem, hNE, hA]; done)); (intro hG hG2; first | exact h1)) | refine de_gno ?_ | refine de_gskip ?_ | refine de_gno2 ?_) | ((with_reducible apply gd_g); first | refine de_gval ?_ | refine de_gno ?_ | refine de_gskip ?_ | refine de_gval2 ?_ | refine de_gno2 ?_) | ((with_reducible apply gt_cond); first | refine c_cond ?_ ?_ | refine c_condB ?_ ?_) | ((with_reducible apply gt_any); refine ce_val ?_) | ((with_reducible apply gd_any); refine de_val ?_) | ((with_reducible apply gt_drw); first | refine ce_drwA ?_ | refine ce_drwE ?_ | refine ce_drwK ?_ | refine ce_drwZ ?_) | with_reducible first | refine k_seq ?_ | refine t_seq ?_ | refine t_reg ?_ | refine t_nil ?_ | refine t_skip ?_ | refine t_ret ?_ | refine t_exit ?_ | refine k_seq_exit ?_ | refine k_seq_ret ?_ | refine k_blk_exit ?_ | refine k_blk_other (by decide) ?_ | refine k_blk_ret ?_ | refine k_blk ?_ | refine t_block ?_ | refine m_nil ?_ | (with_reducible intro hc; with_reducible exact Bool.noConfusion hc) | (with_reducible intro hc la ha hn1; replace hNE := And.intro hNE hn1) | (with_reducible intro hc; replace hC := And.intro hC hc))
        all_goals ((first | refine cpendE rs66 ?_ | refine cpendNE rs66 ?_); ((try simp only [cast0]) <;> exact fin_eq))
    · by_cases hn0 : 200 < n
      · (refine ppure_of_T ok66 (by simp only [List.length_cons, List.length_nil]; decide) ?_; refine t_seq ?_)
        have hNE := True.intro; have hC := True.intro; have hA := True.intro; have hP := True.intro
        (replace hA := True.intro; replace hP := And.intro h1 (True.intro); repeat' first | ((with_reducible apply gt_call); first | refine ce_callS ?_ | refine ce_callO ?_) | ((with_reducible apply gd_gcall); first | refine de_gcallS ?_ | ((with_reducible apply me_gcallO); exact rfl; (focus (simp (maxDischargeDepth := 8) (disch := first | (with_reducible apply Om.mk; first | (simp (maxDischargeDepth := 8) only [go_sem, hNE, hA]; done) | (clear hP hC hNE hA; first | omega | (simp only [List.length_append, List.length_take, List.length_drop, List.length_map, List.length_replicate]; omega))) | (simp (maxDischargeDepth := 8) only [go_sem, hNE, hA]; done) | fail) only [go_sem, hNE, hA]; first | done | exact rfl)); (focus (simp (maxDischargeDepth := 8) (disch := first | (with_reducible apply Om.mk; first | (simp (maxDischargeDepth := 8) only [go_sem, hNE, hA]; done) | (clear hP hC hNE hA; first | omega | (simp only [List.length_append, List.length_take, List.length_drop, List.length_map, List.length_replicate]; omega))) | (simp (maxDischargeDepth := 8) only [go_sem, hNE, hA]; done) | fail) only [go_sem, hNE, hA]; first | done | exact rfl)); (focus (intro hG; simp (maxDischargeDepth := 8) (disch := first | (with_reducible apply Om.mk; first | (simp (maxDischargeDepth := 8) only [go_sem, hNE, hA]; done) | (clear hP hC hNE hA; first | omega | (simp only [List.length_append, List.length_take, List.length_drop, List.length_map, List.length_replicate]; omega))) | (simp (maxDischargeDepth := 8) only [go_sem, hNE, hA]; done) | fail) only [go_sem, hNE, hA, hG]; first | done | exact rfl)); (focus (intro hG; simp (maxDischargeDepth := 8) (disch := first | (with_reducible apply Om.mk; first | (simp (maxDischargeDepth := 8) only [go_sem, hNE, hA]; done) | (clear hP hC hNE hA; first | omega | (simp only [List.length_append, List.length_take, List.length_drop, List.length_map, List.length_replicate]; omega))) | (simp (maxDischargeDepth := 8) only [go_sem, hNE, hA]; done) | fail) only [go_sem, hNE, hA, hG]; first | done | exact rfl)); (intro hG; first | exact h1); exact rfl) | ((with_reducible apply me_gcall2); exact rfl; (focus (simp (maxDischargeDepth := 8) (disch := first | (with_reducible apply Om.mk; first | (simp (maxDischargeDepth := 8) only [go_sem, hNE, hA]; done) | (clear hP hC hNE hA; first | omega | (simp only [List.length_append, List.length_take, List.length_drop, List.length_map, List.length_replicate]; omega))) | (simp (maxDischargeDepth := 8) only [go_sem, hNE, hA]; done) | fail) only [go_sem, hNE, hA]; first | done | exact rfl)); (focus (simp (maxDischargeDepth := 8) (disch := first | (with_reducible apply Om.mk; first | (simp (maxDischargeDepth := 8) only [go_sem, hNE, hA]; done) | (clear hP hC hNE hA; first | omega | (simp only [List.length_append, List.length_take, List.length_drop, List.length_map, List.length_replicate]; omega))) | (simp (maxDischargeDepth := 8) only [go_sem, hNE, hA]; done) | fail) only [go_sem, hNE, hA]; first | done | exact rfl)); (focus (intro hG hG2; simp (maxDischargeDepth := 8) (disch := first | (with_reducible apply Om.mk; first | (simp (maxDischargeDepth := 8) only [go_sem, hNE, hA]; done) | (clear hP hC hNE hA; first | omega | (simp only [List.length_append, List.length_take, List.length_drop, List.length_map, List.length_replicate]; omega))) | (simp (maxDischargeDepth := 8) only [go_sem, hNE, hA]; done) | fail) only [go_sem, hNE, hA, hG, hG2]; first | done | exact rfl)); (focus (simp (maxDischargeDepth := 8) (disch := first | (with_reducible apply Om.mk; first | (simp (maxDischargeDepth := 8) only [go_sem, hNE, hA]; done) | (clear hP hC hNE hA; first | omega | (simp only [List.length_append, List.length_take, List.length_drop, List.length_map, List.length_replicate]; omega))) | (simp (maxDischargeDepth := 8) only [go_sem, hNE, hA]; done) | fail) only [go_sem, hNE, hA]; done)); (intro hG hG2; first | exact h1)) | refine de_gno ?_ | refine de_gskip ?_ | refine de_gno2 ?_) | ((with_reducible apply gd_g); first | refine de_gval ?_ | refine de_gno ?_ | refine de_gskip ?_ | refine de_gval2 ?_ | refine de_gno2 ?_) | ((with_reducible apply gt_cond); first | refine c_cond ?_ ?_ | refine c_condB ?_ ?_) | ((with_reducible apply gt_any); refine ce_val ?_) | ((with_reducible apply gd_any); refine de_val ?_) | ((with_reducible apply gt_drw); first | refine ce_drwA ?_ | refine ce_drwE ?_ | refine ce_drwK ?_ | refine ce_drwZ ?_) | with_reducible first | refine k_seq ?_ | refine t_seq ?_ | refine t_reg ?_ | refine t_nil ?_ | refine t_skip ?_ | refine t_ret ?_ | refine t_exit ?_ | refine k_seq_exit ?_ | refine k_seq_ret ?_ | refine k_blk_exit ?_ | refine k_blk_other (by decide) ?_ | refine k_blk_ret ?_ | refine k_blk ?_ | refine t_block ?_ | refine m_nil ?_ | (with_reducible intro hc; with_reducible exact Bool.noConfusion hc) | (with_reducible intro hc la ha hn1; replace hNE := And.intro hNE hn1) | (with_reducible intro hc; replace hC := And.intro hC hc))
        all_goals ((first | refine cpendE rs66 ?_ | refine cpendNE rs66 ?_); ((try simp only [cast0]) <;> exact fin_eq))
      · (refine ppure_of_T ok66 (by simp only [List.length_cons, List.length_nil]; decide) ?_; refine t_seq ?_)
        have hNE := True.intro; have hC := True.intro; have hA := True.intro; have hP := True.intro
        (replace hA := True.intro; replace hP := And.intro h1 (True.intro); repeat' first | ((with_reducible apply gt_call); first | refine ce_callS ?_ | refine ce_callO ?_) | ((with_reducible apply gd_gcall); first | refine de_gcallS ?_ | ((with_reducible apply me_gcallO); exact rfl; (focus (simp (maxDischargeDepth := 8) (disch := first | (with_reducible apply Om.mk; first | (simp (maxDischargeDepth := 8) only [go_sem, hNE, hA]; done) | (clear hP hC hNE hA; first | omega | (simp only [List.length_append, List.length_take, List.length_drop, List.length_map, List.length_replicate]; omega))) | (simp (maxDischargeDepth := 8) only [go_sem, hNE, hA]; done) | fail) only [go_sem, hNE, hA]; first | done | exact rfl)); (focus (simp (maxDischargeDepth := 8) (disch := first | (with_reducible apply Om.mk; first | (simp (maxDischargeDepth := 8) only [go_sem, hNE, hA]; done) | (clear hP hC hNE hA; first | omega | (simp only [List.length_append, List.length_take, List.length_drop, List.length_map, List.length_replicate]; omega))) | (simp (maxDischargeDepth := 8) only [go_sem, hNE, hA]; done) | fail) only [go_sem, hNE, hA]; first | done | exact rfl)); (focus (intro hG; simp (maxDischargeDepth := 8) (disch := first | (with_reducible apply Om.mk; first | (simp (maxDischargeDepth := 8) only [go_sem, hNE, hA]; done) | (clear hP hC hNE hA; first | omega | (simp only [List.length_append, List.length_take, List.length_drop, List.length_map, List.length_replicate]; omega))) | (simp (maxDischargeDepth := 8) only [go_sem, hNE, hA]; done) | fail) only [go_sem, hNE, hA, hG]; first | done | exact rfl)); (focus (intro hG; simp (maxDischargeDepth := 8) (disch := first | (with_reducible apply Om.mk; first | (simp (maxDischargeDepth := 8) only [go_sem, hNE, hA]; done) | (clear hP hC hNE hA; first | omega | (simp only [List.length_append, List.length_take, List.length_drop, List.length_map, List.length_replicate]; omega))) | (simp (maxDischargeDepth := 8) only [go_sem, hNE, hA]; done) | fail) only [go_sem, hNE, hA, hG]; first | done | exact rfl)); (intro hG; first | exact h1); exact rfl) | ((with_reducible apply me_gcall2); exact rfl; (focus (simp (maxDischargeDepth := 8) (disch := first | (with_reducible apply Om.mk; first | (simp (maxDischargeDepth := 8) only [go_sem, hNE, hA]; done) | (clear hP hC hNE hA; first | omega | (simp only [List.length_append, List.length_take, List.length_drop, List.length_map, List.length_replicate]; omega))) | (simp (maxDischargeDepth := 8) only [go_sem, hNE, hA]; done) | fail) only [go_sem, hNE, hA]; first | done | exact rfl)); (focus (simp (maxDischargeDepth := 8) (disch := first | (with_reducible apply Om.mk; first | (simp (maxDischargeDepth := 8) only [go_sem, hNE, hA]; done) | (clear hP hC hNE hA; first | omega | (simp only [List.length_append, List.length_take, List.length_drop, List.length_map, List.length_replicate]; omega))) | (simp (maxDischargeDepth := 8) only [go_sem, hNE, hA]; done) | fail) only [go_sem, hNE, hA]; first | done | exact rfl)); (focus (intro hG hG2; simp (maxDischargeDepth := 8) (disch := first | (with_reducible apply Om.mk; first | (simp (maxDischargeDepth := 8) only [go_sem, hNE, hA]; done) | (clear hP hC hNE hA; first | omega | (simp only [List.length_append, List.length_take, List.length_drop, List.length_map, List.length_replicate]; omega))) | (simp (maxDischargeDepth := 8) only [go_sem, hNE, hA]; done) | fail) only [go_sem, hNE, hA, hG, hG2]; first | done | exact rfl)); (focus (simp (maxDischargeDepth := 8) (disch := first | (with_reducible apply Om.mk; first | (simp (maxDischargeDepth := 8) only [go_sem, hNE, hA]; done) | (clear hP hC hNE hA; first | omega | (simp only [List.length_append, List.length_take, List.length_drop, List.length_map, List.length_replicate]; omega))) | (simp (maxDischargeDepth := 8) only [go_sem, hNE, hA]; done) | fail) only [go_sem, hNE, hA]; done)); (intro hG hG2; first | exact h1)) | refine de_gno ?_ | refine de_gskip ?_ | refine de_gno2 ?_) | ((with_reducible apply gd_g); first | refine de_gval ?_ | refine de_gno ?_ | refine de_gskip ?_ | refine de_gval2 ?_ | refine de_gno2 ?_) | ((with_reducible apply gt_cond); first | refine c_cond ?_ ?_ | refine c_condB ?_ ?_) | ((with_reducible apply gt_any); refine ce_val ?_) | ((with_reducible apply gd_any); refine de_val ?_) | ((with_reducible apply gt_drw); first | refine ce_drwA ?_ | refine ce_drwE ?_ | refine ce_drwK ?_ | refine ce_drwZ ?_) | with_reducible first | refine k_seq ?_ | refine t_seq ?_ | refine t_reg ?_ | refine t_nil ?_ | refine t_skip ?_ | refine t_ret ?_ | refine t_exit ?_ | refine k_seq_exit ?_ | refine k_seq_ret ?_ | refine k_blk_exit ?_ | refine k_blk_other (by decide) ?_ | refine k_blk_ret ?_ | refine k_blk ?_ | refine t_block ?_ | refine m_nil ?_ | (with_reducible intro hc; with_reducible exact Bool.noConfusion hc) | (with_reducible intro hc la ha hn1; replace hNE := And.intro hNE hn1) | (with_reducible intro hc; replace hC := And.intro hC hc))
        all_goals ((first | refine cpendE rs66 ?_ | refine cpendNE rs66 ?_); ((try simp only [cast0]) <;> exact fin_eq))
  · rw [if_neg hb]
    have h2 := p96 s (a + 4 + n) 4 (by omega) (by omega) (by omega)
    have h3 := p22 ((s.take (a + 4 + n)).drop a) (by simp; omega)
    obtain ⟨m, hm⟩ : ∃ m, numAt s (a + 4 + n) 4 = m := ⟨_, rfl⟩
    obtain ⟨t, ht⟩ : ∃ t, sumF ((s.take (a + 4 + n)).drop a) = t := ⟨_, rfl⟩
    rw [hm] at h2 ⊢
    rw [ht] at h3 ⊢
    by_cases hk2 : s[a].toNat = 69
    · by_cases he : m = t
      · rw [if_pos he]
        (refine ppure_of_T ok66 (by simp only [List.length_cons, List.length_nil]; decide) ?_; refine t_seq ?_)
        have hNE := True.intro; have hC := True.intro; have hA := True.intro; have hP := True.intro
        (replace hA := True.intro; replace hP := And.intro h1 (And.intro h2 (And.intro h3 (True.intro))); repeat' first | ((with_reducible apply gt_call); first | refine ce_callS ?_ | refine ce_callO ?_) | ((with_reducible apply gd_gcall); first | refine de_gcallS ?_ | ((with_reducible apply me_gcallO); exact rfl; (focus (simp (maxDischargeDepth := 8) (disch := first | (with_reducible apply Om.mk; first | (simp (maxDischargeDepth := 8) only [go_sem, hNE, hA]; done) | (clear hP hC hNE hA; first | omega | (simp only [List.length_append, List.length_take, List.length_drop, List.length_map, List.length_replicate]; omega))) | (simp (maxDischargeDepth := 8) only [go_sem, hNE, hA]; done) | fail) only [go_sem, hNE, hA]; first | done | exact rfl)); (focus (simp (maxDischargeDepth := 8) (disch := first | (with_reducible apply Om.mk; first | (simp (maxDischargeDepth := 8) only [go_sem, hNE, hA]; done) | (clear hP hC hNE hA; first | omega | (simp only [List.length_append, List.length_take, List.length_drop, List.length_map, List.length_replicate]; omega))) | (simp (maxDischargeDepth := 8) only [go_sem, hNE, hA]; done) | fail) only [go_sem, hNE, hA]; first | done | exact rfl)); (focus (intro hG; simp (maxDischargeDepth := 8) (disch := first | (with_reducible apply Om.mk; first | (simp (maxDischargeDepth := 8) only [go_sem, hNE, hA]; done) | (clear hP hC hNE hA; first | omega | (simp only [List.length_append, List.length_take, List.length_drop, List.length_map, List.length_replicate]; omega))) | (simp (maxDischargeDepth := 8) only [go_sem, hNE, hA]; done) | fail) only [go_sem, hNE, hA, hG]; first | done | exact rfl)); (focus (intro hG; simp (maxDischargeDepth := 8) (disch := first | (with_reducible apply Om.mk; first | (simp (maxDischargeDepth := 8) only [go_sem, hNE, hA]; done) | (clear hP hC hNE hA; first | omega | (simp only [List.length_append, List.length_take, List.length_drop, List.length_map, List.length_replicate]; omega))) | (simp (maxDischargeDepth := 8) only [go_sem, hNE, hA]; done) | fail) only [go_sem, hNE, hA, hG]; first | done | exact rfl)); (intro hG; first | exact h1 | exact h2 | exact h3); exact rfl) | ((with_reducible apply me_gcall2); exact rfl; (focus (simp (maxDischargeDepth := 8) (disch := first | (with_reducible apply Om.mk; first | (simp (maxDischargeDepth := 8) only [go_sem, hNE, hA]; done) | (clear hP hC hNE hA; first | omega | (simp only [List.length_append, List.length_take, List.length_drop, List.length_map, List.length_replicate]; omega))) | (simp (maxDischargeDepth := 8) only [go_sem, hNE, hA]; done) | fail) only [go_sem, hNE, hA]; first | done | exact rfl)); (focus (simp (maxDischargeDepth := 8) (disch := first | (with_reducible apply Om.mk; first | (simp (maxDischargeDepth := 8) only [go_sem, hNE, hA]; done) | (clear hP hC hNE hA; first | omega | (simp only [List.length_append, List.length_take, List.length_drop, List.length_map, List.length_replicate]; omega))) | (simp (maxDischargeDepth := 8) only [go_sem, hNE, hA]; done) | fail) only [go_sem, hNE, hA]; first | done | exact rfl)); (focus (intro hG hG2; simp (maxDischargeDepth := 8) (disch := first | (with_reducible apply Om.mk; first | (simp (maxDischargeDepth := 8) only [go_sem, hNE, hA]; done) | (clear hP hC hNE hA; first | omega | (simp only [List.length_append, List.length_take, List.length_drop, List.length_map, List.length_replicate]; omega))) | (simp (maxDischargeDepth := 8) only [go_sem, hNE, hA]; done) | fail) only [go_sem, hNE, hA, hG, hG2]; first | done | exact rfl)); (focus (simp (maxDischargeDepth := 8) (disch := first | (with_reducible apply Om.mk; first | (simp (maxDischargeDepth := 8) only [go_sem, hNE, hA]; done) | (clear hP hC hNE hA; first | omega | (simp only [List.length_append, List.length_take, List.length_drop, List.length_map, List.length_replicate]; omega))) | (simp (maxDischargeDepth := 8) only [go_sem, hNE, hA]; done) | fail) only [go_sem, hNE, hA]; done)); (intro hG hG2; first | exact h1 | exact h2 | exact h3)) | refine de_gno ?_ | refine de_gskip ?_ | refine de_gno2 ?_) | ((with_reducible apply gd_g); first | refine de_gval ?_ | refine de_gno ?_ | refine de_gskip ?_ | refine de_gval2 ?_ | refine de_gno2 ?_) | ((with_reducible apply gt_cond); first | refine c_cond ?_ ?_ | refine c_condB ?_ ?_) | ((with_reducible apply gt_any); refine ce_val ?_) | ((with_reducible apply gd_any); refine de_val ?_) | ((with_reducible apply gt_drw); first | refine ce_drwA ?_ | refine ce_drwE ?_ | refine ce_drwK ?_ | refine ce_drwZ ?_) | with_reducible first | refine k_seq ?_ | refine t_seq ?_ | refine t_reg ?_ | refine t_nil ?_ | refine t_skip ?_ | refine t_ret ?_ | refine t_exit ?_ | refine k_seq_exit ?_ | refine k_seq_ret ?_ | refine k_blk_exit ?_ | refine k_blk_other (by decide) ?_ | refine k_blk_ret ?_ | refine k_blk ?_ | refine t_block ?_ | refine m_nil ?_ | (with_reducible intro hc; with_reducible exact Bool.noConfusion hc) | (with_reducible intro hc la ha hn1; replace hNE := And.intro hNE hn1) | (with_reducible intro hc; replace hC := And.intro hC hc))
        all_goals ((first | refine cpendE rs66 ?_ | refine cpendNE rs66 ?_); (exact fin_eq))
      · rw [if_neg he]
        (refine ppure_of_T ok66 (by simp only [List.length_cons, List.length_nil]; decide) ?_; refine t_seq ?_)
        have hNE := True.intro; have hC := True.intro; have hA := True.intro; have hP := True.intro
        (replace hA := True.intro; replace hP := And.intro h1 (And.intro h2 (And.intro h3 (True.intro))); repeat' first | ((with_reducible apply gt_call); first | refine ce_callS ?_ | refine ce_callO ?_) | ((with_reducible apply gd_gcall); first | refine de_gcallS ?_ | ((with_reducible apply me_gcallO); exact rfl; (focus (simp (maxDischargeDepth := 8) (disch := first | (with_reducible apply Om.mk; first | (simp (maxDischargeDepth := 8) only [go_sem, hNE, hA]; done) | (clear hP hC hNE hA; first | omega | (simp only [List.length_append, List.length_take, List.length_drop, List.length_map, List.length_replicate]; omega))) | (simp (maxDischargeDepth := 8) only [go_sem, hNE, hA]; done) | fail) only [go_sem, hNE, hA]; first | done | exact rfl)); (focus (simp (maxDischargeDepth := 8) (disch := first | (with_reducible apply Om.mk; first | (simp (maxDischargeDepth := 8) only [go_sem, hNE, hA]; done) | (clear hP hC hNE hA; first | omega | (simp only [List.length_append, List.length_take, List.length_drop, List.length_map, List.length_replicate]; omega))) | (simp (maxDischargeDepth := 8) only [go_sem, hNE, hA]; done) | fail) only [go_sem, hNE, hA]; first | done | exact rfl)); (focus (intro hG; simp (maxDischargeDepth := 8) (disch := first | (with_reducible apply Om.mk; first | (simp (maxDischargeDepth := 8) only [go_sem, hNE, hA]; done) | (clear hP hC hNE hA; first | omega | (simp only [List.length_append, List.length_take, List.length_drop, List.length_map, List.length_replicate]; omega))) | (simp (maxDischargeDepth := 8) only [go_sem, hNE, hA]; done) | fail) only [go_sem, hNE, hA, hG]; first | done | exact rfl)); (focus (intro hG; simp (maxDischargeDepth := 8) (disch := first | (with_reducible apply Om.mk; first | (simp (maxDischargeDepth := 8) only [go_sem, hNE, hA]; done) | (clear hP hC hNE hA; first | omega | (simp only [List.length_append, List.length_take, List.length_drop, List.length_map, List.length_replicate]; omega))) | (simp (maxDischargeDepth := 8) only [go_sem, hNE, hA]; done) | fail) only [go_sem, hNE, hA, hG]; first | done | exact rfl)); (intro hG; first | exact h1 | exact h2 | exact h3); exact rfl) | ((with_reducible apply me_gcall2); exact rfl; (focus (simp (maxDischargeDepth := 8) (disch := first | (with_reducible apply Om.mk; first | (simp (maxDischargeDepth := 8) only [go_sem, hNE, hA]; done) | (clear hP hC hNE hA; first | omega | (simp only [List.length_append, List.length_take, List.length_drop, List.length_map, List.length_replicate]; omega))) | (simp (maxDischargeDepth := 8) only [go_sem, hNE, hA]; done) | fail) only [go_sem, hNE, hA]; first | done | exact rfl)); (focus (simp (maxDischargeDepth := 8) (disch := first | (with_reducible apply Om.mk; first | (simp (maxDischargeDepth := 8) only [go_sem, hNE, hA]; done) | (clear hP hC hNE hA; first | omega | (simp only [List.length_append, List.length_take, List.length_drop, List.length_map, List.length_replicate]; omega))) | (simp (maxDischargeDepth := 8) only [go_sem, hNE, hA]; done) | fail) only [go_sem, hNE, hA]; first | done | exact rfl)); (focus (intro hG hG2; simp (maxDischargeDepth := 8) (disch := first | (with_reducible apply Om.mk; first | (simp (maxDischargeDepth := 8) only [go_sem, hNE, hA]; done) | (clear hP hC hNE hA; first | omega | (simp only [List.length_append, List.length_take, List.length_drop, List.length_map, List.length_replicate]; omega))) | (simp (maxDischargeDepth := 8) only [go_sem, hNE, hA]; done) | fail) only [go_sem, hNE, hA, hG, hG2]; first | done | exact rfl)); (focus (simp (maxDischargeDepth := 8) (disch := first | (with_reducible apply Om.mk; first | (simp (maxDischargeDepth := 8) only [go_sem, hNE, hA]; done) | (clear hP hC hNE hA; first | omega | (simp only [List.length_append, List.length_take, List.length_drop, List.length_map, List.length_replicate]; omega))) | (simp (maxDischargeDepth := 8) only [go_sem, hNE, hA]; done) | fail) only [go_sem, hNE, hA]; done)); (intro hG hG2; first | exact h1 | exact h2 | exact h3)) | refine de_gno ?_ | refine de_gskip ?_ | refine de_gno2 ?_) | ((with_reducible apply gd_g); first | refine de_gval ?_ | refine de_gno ?_ | refine de_gskip ?_ | refine de_gval2 ?_ | refine de_gno2 ?_) | ((with_reducible apply gt_cond); first | refine c_cond ?_ ?_ | refine c_condB ?_ ?_) | ((with_reducible apply gt_any); refine ce_val ?_) | ((with_reducible apply gd_any); refine de_val ?_) | ((with_reducible apply gt_drw); first | refine ce_drwA ?_ | refine ce_drwE ?_ | refine ce_drwK ?_ | refine ce_drwZ ?_) | with_reducible first | refine k_seq ?_ | refine t_seq ?_ | refine t_reg ?_ | refine t_nil ?_ | refine t_skip ?_ | refine t_ret ?_ | refine t_exit ?_ | refine k_seq_exit ?_ | refine k_seq_ret ?_ | refine k_blk_exit ?_ | refine k_blk_other (by decide) ?_ | refine k_blk_ret ?_ | refine k_blk ?_ | refine t_block ?_ | refine m_nil ?_ | (with_reducible intro hc; with_reducible exact Bool.noConfusion hc) | (with_reducible intro hc la ha hn1; replace hNE := And.intro hNE hn1) | (with_reducible intro hc; replace hC := And.intro hC hc))
        all_goals ((first | refine cpendE rs66 ?_ | refine cpendNE rs66 ?_); ((try simp only [cast0]) <;> exact fin_eq))
    · by_cases he : m = t
      · rw [if_pos he]
        (refine ppure_of_T ok66 (by simp only [List.length_cons, List.length_nil]; decide) ?_; refine t_seq ?_)
        have hNE := True.intro; have hC := True.intro; have hA := True.intro; have hP := True.intro
        (replace hA := True.intro; replace hP := And.intro h1 (And.intro h2 (And.intro h3 (True.intro))); repeat' first | ((with_reducible apply gt_call); first | refine ce_callS ?_ | refine ce_callO ?_) | ((with_reducible apply gd_gcall); first | refine de_gcallS ?_ | ((with_reducible apply me_gcallO); exact rfl; (focus (simp (maxDischargeDepth := 8) (disch := first | (with_reducible apply Om.mk; first | (simp (maxDischargeDepth := 8) only [go_sem, hNE, hA]; done) | (clear hP hC hNE hA; first | omega | (simp only [List.length_append, List.length_take, List.length_drop, List.length_map, List.length_replicate]; omega))) | (simp (maxDischargeDepth := 8) only [go_sem, hNE, hA]; done) | fail) only [go_sem, hNE, hA]; first | done | exact rfl)); (focus (simp (maxDischargeDepth := 8) (disch := first | (with_reducible apply Om.mk; first | (simp (maxDischargeDepth := 8) only [go_sem, hNE, hA]; done) | (clear hP hC hNE hA; first | omega | (simp only [List.length_append, List.length_take, List.length_drop, List.length_map, List.length_replicate]; omega))) | (simp (maxDischargeDepth := 8) only [go_sem, hNE, hA]; done) | fail) only [go_sem, hNE, hA]; first | done | exact rfl)); (focus (intro hG; simp (maxDischargeDepth := 8) (disch := first | (with_reducible apply Om.mk; first | (simp (maxDischargeDepth := 8) only [go_sem, hNE, hA]; done) | (clear hP hC hNE hA; first | omega | (simp only [List.length_append, List.length_take, List.length_drop, List.length_map, List.length_replicate]; omega))) | (simp (maxDischargeDepth := 8) only [go_sem, hNE, hA]; done) | fail) only [go_sem, hNE, hA, hG]; first | done | exact rfl)); (focus (intro hG; simp (maxDischargeDepth := 8) (disch := first | (with_reducible apply Om.mk; first | (simp (maxDischargeDepth := 8) only [go_sem, hNE, hA]; done) | (clear hP hC hNE hA; first | omega | (simp only [List.length_append, List.length_take, List.length_drop, List.length_map, List.length_replicate]; omega))) | (simp (maxDischargeDepth := 8) only [go_sem, hNE, hA]; done) | fail) only [go_sem, hNE, hA, hG]; first | done | exact rfl)); (intro hG; first | exact h1 | exact h2 | exact h3); exact rfl) | ((with_reducible apply me_gcall2); exact rfl; (focus (simp (maxDischargeDepth := 8) (disch := first | (with_reducible apply Om.mk; first | (simp (maxDischargeDepth := 8) only [go_sem, hNE, hA]; done) | (clear hP hC hNE hA; first | omega | (simp only [List.length_append, List.length_take, List.length_drop, List.length_map, List.length_replicate]; omega))) | (simp (maxDischargeDepth := 8) only [go_sem, hNE, hA]; done) | fail) only [go_sem, hNE, hA]; first | done | exact rfl)); (focus (simp (maxDischargeDepth := 8) (disch := first | (with_reducible apply Om.mk; first | (simp (maxDischargeDepth := 8) only [go_sem, hNE, hA]; done) | (clear hP hC hNE hA; first | omega | (simp only [List.length_append, List.length_take, List.length_drop, List.length_map, List.length_replicate]; omega))) | (simp (maxDischargeDepth := 8) only [go_sem, hNE, hA]; done) | fail) only [go_sem, hNE, hA]; first | done | exact rfl)); (focus (intro hG hG2; simp (maxDischargeDepth := 8) (disch := first | (with_reducible apply Om.mk; first | (simp (maxDischargeDepth := 8) only [go_sem, hNE, hA]; done) | (clear hP hC hNE hA; first | omega | (simp only [List.length_append, List.length_take, List.length_drop, List.length_map, List.length_replicate]; omega))) | (simp (maxDischargeDepth := 8) only [go_sem, hNE, hA]; done) | fail) only [go_sem, hNE, hA, hG, hG2]; first | done | exact rfl)); (focus (simp (maxDischargeDepth := 8) (disch := first | (with_reducible apply Om.mk; first | (simp (maxDischargeDepth := 8) only [go_sem, hNE, hA]; done) | (clear hP hC hNE hA; first | omega | (simp only [List.length_append, List.length_take, List.length_drop, List.length_map, List.length_replicate]; omega))) | (simp (maxDischargeDepth := 8) only [go_sem, hNE, hA]; done) | fail) only [go_sem, hNE, hA]; done)); (intro hG hG2; first | exact h1 | exact h2 | exact h3)) | refine de_gno ?_ | refine de_gskip ?_ | refine de_gno2 ?_) | ((with_reducible apply gd_g); first | refine de_gval ?_ | refine de_gno ?_ | refine de_gskip ?_ | refine de_gval2 ?_ | refine de_gno2 ?_) | ((with_reducible apply gt_cond); first | refine c_cond ?_ ?_ | refine c_condB ?_ ?_) | ((with_reducible apply gt_any); refine ce_val ?_) | ((with_reducible apply gd_any); refine de_val ?_) | ((with_reducible apply gt_drw); first | refine ce_drwA ?_ | refine ce_drwE ?_ | refine ce_drwK ?_ | refine ce_drwZ ?_) | with_reducible first | refine k_seq ?_ | refine t_seq ?_ | refine t_reg ?_ | refine t_nil ?_ | refine t_skip ?_ | refine t_ret ?_ | refine t_exit ?_ | refine k_seq_exit ?_ | refine k_seq_ret ?_ | refine k_blk_exit ?_ | refine k_blk_other (by decide) ?_ | refine k_blk_ret ?_ | refine k_blk ?_ | refine t_block ?_ | refine m_nil ?_ | (with_reducible intro hc; with_reducible exact Bool.noConfusion hc) | (with_reducible intro hc la ha hn1; replace hNE := And.intro hNE hn1) | (with_reducible intro hc; replace hC := And.intro hC hc))
        all_goals ((first | refine cpendE rs66 ?_ | refine cpendNE rs66 ?_); (exact fin_eq))
      · rw [if_neg he]
        (refine ppure_of_T ok66 (by simp only [List.length_cons, List.length_nil]; decide) ?_; refine t_seq ?_)
        have hNE := True.intro; have hC := True.intro; have hA := True.intro; have hP := True.intro
        (replace hA := True.intro; replace hP := And.intro h1 (And.intro h2 (And.intro h3 (True.intro))); repeat' first | ((with_reducible apply gt_call); first | refine ce_callS ?_ | refine ce_callO ?_) | ((with_reducible apply gd_gcall); first | refine de_gcallS ?_ | ((with_reducible apply me_gcallO); exact rfl; (focus (simp (maxDischargeDepth := 8) (disch := first | (with_reducible apply Om.mk; first | (simp (maxDischargeDepth := 8) only [go_sem, hNE, hA]; done) | (clear hP hC hNE hA; first | omega | (simp only [List.length_append, List.length_take, List.length_drop, List.length_map, List.length_replicate]; omega))) | (simp (maxDischargeDepth := 8) only [go_sem, hNE, hA]; done) | fail) only [go_sem, hNE, hA]; first | done | exact rfl)); (focus (simp (maxDischargeDepth := 8) (disch := first | (with_reducible apply Om.mk; first | (simp (maxDischargeDepth := 8) only [go_sem, hNE, hA]; done) | (clear hP hC hNE hA; first | omega | (simp only [List.length_append, List.length_take, List.length_drop, List.length_map, List.length_replicate]; omega))) | (simp (maxDischargeDepth := 8) only [go_sem, hNE, hA]; done) | fail) only [go_sem, hNE, hA]; first | done | exact rfl)); (focus (intro hG; simp (maxDischargeDepth := 8) (disch := first | (with_reducible apply Om.mk; first | (simp (maxDischargeDepth := 8) only [go_sem, hNE, hA]; done) | (clear hP hC hNE hA; first | omega | (simp only [List.length_append, List.length_take, List.length_drop, List.length_map, List.length_replicate]; omega))) | (simp (maxDischargeDepth := 8) only [go_sem, hNE, hA]; done) | fail) only [go_sem, hNE, hA, hG]; first | done | exact rfl)); (focus (intro hG; simp (maxDischargeDepth := 8) (disch := first | (with_reducible apply Om.mk; first | (simp (maxDischargeDepth := 8) only [go_sem, hNE, hA]; done) | (clear hP hC hNE hA; first | omega | (simp only [List.length_append, List.length_take, List.length_drop, List.length_map, List.length_replicate]; omega))) | (simp (maxDischargeDepth := 8) only [go_sem, hNE, hA]; done) | fail) only [go_sem, hNE, hA, hG]; first | done | exact rfl)); (intro hG; first | exact h1 | exact h2 | exact h3); exact rfl) | ((with_reducible apply me_gcall2); exact rfl; (focus (simp (maxDischargeDepth := 8) (disch := first | (with_reducible apply Om.mk; first | (simp (maxDischargeDepth := 8) only [go_sem, hNE, hA]; done) | (clear hP hC hNE hA; first | omega | (simp only [List.length_append, List.length_take, List.length_drop, List.length_map, List.length_replicate]; omega))) | (simp (maxDischargeDepth := 8) only [go_sem, hNE, hA]; done) | fail) only [go_sem, hNE, hA]; first | done | exact rfl)); (focus (simp (maxDischargeDepth := 8) (disch := first | (with_reducible apply Om.mk; first | (simp (maxDischargeDepth := 8) only [go_sem, hNE, hA]; done) | (clear hP hC hNE hA; first | omega | (simp only [List.length_append, List.length_take, List.length_drop, List.length_map, List.length_replicate]; omega))) | (simp (maxDischargeDepth := 8) only [go_sem, hNE, hA]; done) | fail) only [go_sem, hNE, hA]; first | done | exact rfl)); (focus (intro hG hG2; simp (maxDischargeDepth := 8) (disch := first | (with_reducible apply Om.mk; first | (simp (maxDischargeDepth := 8) only [go_sem, hNE, hA]; done) | (clear hP hC hNE hA; first | omega | (simp only [List.length_append, List.length_take, List.length_drop, List.length_map, List.length_replicate]; omega))) | (simp (maxDischargeDepth := 8) only [go_sem, hNE, hA]; done) | fail) only [go_sem, hNE, hA, hG, hG2]; first | done | exact rfl)); (focus (simp (maxDischargeDepth := 8) (disch := first | (with_reducible apply Om.mk; first | (simp (maxDischargeDepth := 8) only [go_sem, hNE, hA]; done) | (clear hP hC hNE hA; first | omega | (simp only [List.length_append, List.length_take, List.length_drop, List.length_map, List.length_replicate]; omega))) | (simp (maxDischargeDepth := 8) only [go_sem, hNE, hA]; done) | fail) only [go_sem, hNE, hA]; done)); (intro hG hG2; first | exact h1 | exact h2 | exact h3)) | refine de_gno ?_ | refine de_gskip ?_ | refine de_gno2 ?_) | ((with_reducible apply gd_g); first | refine de_gval ?_ | refine de_gno ?_ | refine de_gskip ?_ | refine de_gval2 ?_ | refine de_gno2 ?_) | ((with_reducible apply gt_cond); first | refine c_cond ?_ ?_ | refine c_condB ?_ ?_) | ((with_reducible apply gt_any); refine ce_val ?_) | ((with_reducible apply gd_any); refine de_val ?_) | ((with_reducible apply gt_drw); first | refine ce_drwA ?_ | refine ce_drwE ?_ | refine ce_drwK ?_ | refine ce_drwZ ?_) | with_reducible first | refine k_seq ?_ | refine t_seq ?_ | refine t_reg ?_ | refine t_nil ?_ | refine t_skip ?_ | refine t_ret ?_ | refine t_exit ?_ | refine k_seq_exit ?_ | refine k_seq_ret ?_ | refine k_blk_exit ?_ | refine k_blk_other (by decide) ?_ | refine k_blk_ret ?_ | refine k_blk ?_ | refine t_block ?_ | refine m_nil ?_ | (with_reducible intro hc; with_reducible exact Bool.noConfusion hc) | (with_reducible intro hc la ha hn1; replace hNE := And.intro hNE hn1) | (with_reducible intro hc; replace hC := And.intro hC hc))
        all_goals ((first | refine cpendE rs66 ?_ | refine cpendNE rs66 ?_); ((try simp only [cast0]) <;> exact fin_eq))
end Go.Proofs.Ythdgdngdfijfhaa
namespace Go.Proofs.Ythdgdngdfijfhaa
open Go.RowKit Go.Proofs
set_option linter.unusedVariables false
set_option linter.unusedSimpArgs false
attribute [local irreducible] PPure CallN Tops TopsDm T
def acts0 : List Ac := [⟨1, 0, [65, 66]⟩, ⟨1, 0, []⟩, ⟨4, 0, []⟩]
def u1 : Un := ⟨0, 0, [[65, 66], []], [], [], true, 3⟩
theorem run0 : runG zeU acts0 = (((u1, [⟨0, [], 0⟩, ⟨0, [], 0⟩, ⟨0, [], 0⟩]), 3), 0) := by kernel_rfl
def s0 : List UInt8 := (bytesG u1).1
theorem bytes0 : (bytesG u1).2 = 0 := by kernel_rfl
theorem len0 : (s0.length : Int) = 26 := by kernel_rfl
theorem done0 : (doneG u1 ⟨0, 0, []⟩).2 = 0 ∧ (doneG u1 ⟨0, 0, []⟩).1.2.status = 1 := ⟨by kernel_rfl, by kernel_rfl⟩
theorem open0 : (openF 0 0 s0).2 = 0 ∧ (openF 0 0 s0).1.2 = 0 ∧ (openF 0 0 s0).1.1.ended = true ∧ (openF 0 0 s0).1.1.recs = [[65, 66], []] := ⟨by kernel_rfl, by kernel_rfl, by kernel_rfl, by kernel_rfl⟩
theorem sum0 : ((sumF [82, 0, 0, 0] : Nat) : Int) = 92 := by kernel_rfl
theorem p49 : PPure Try.prog 49 [] (.list .any (acts0.map encAc)) := by
  simp only [acts0, List.map_cons, List.map_nil, encAc]
  (refine ppure_of_T ok49 (by simp only [List.length_cons, List.length_nil]; decide) ?_; refine t_seq ?_)
  (have hA := True.intro; have hP := True.intro; have hNE := True.intro; have hC := True.intro; repeat' first
      | with_reducible first | refine k_seq ?_ | refine t_seq ?_ | refine t_reg ?_ | refine t_nil ?_ | refine t_ret ?_
      | refine ae_val ?_)
  (first | apply pend rs49 | apply pendN rs49); (focus (simp only [go_sem]; first | done | exact rfl)); (focus (simp only [go_sem]; first | done | exact rfl))
attribute [local go_sem] List.length_cons List.length_nil in
set_option maxHeartbeats 2000000 in
theorem p11 : PPure Try.prog 11 [] (.bool true) := by
  have h49 := p49
  have h24 := p24 zeU acts0 (by decide) (by decide) (by decide)
  rw [run0] at h24
  have h13 := p13 u1 (by decide) (by decide)
  rw [bytes0] at h13
  have h29 := p29 u1 ⟨0, 0, []⟩ (by decide) (by decide)
  obtain ⟨d1, d2⟩ := done0
  rw [d1] at h29
  obtain ⟨o1, o2, o3, o4⟩ := open0
  have hs0 : (bytesG u1).1 = s0 := rfl
  rw [hs0] at h13
  have h17 := p17' 0 0 s0 (by have := len0; omega)
  rw [o1, o2] at h17
  have h21 := p21 [82, 0, 0, 0] (by decide)
  rw [if_pos (by decide), if_pos (by decide), sum0] at h21
  have h47 := p47 [[65, 66], []] [[65, 66], []] (by decide)
  rw [show (([[65, 66], []] : List (List UInt8)) == [[65, 66], []]) = true from rfl] at h47
  have hl := len0
  generalize s0 = s at h13 h17 hl o3 o4
  generalize (doneG u1 ⟨0, 0, []⟩).1 = q at h29 d2
  generalize (openF 0 0 s).1.1 = v at h17 o3 o4
  simp only [encU, encAc, encAn, acts0, List.map_cons, List.map_nil, d2, o3, o4, encS, zeU, u1] at h49 h24 h13 h29 h17 h47
  (refine ppure_of_T ok11 (by simp only [List.length_cons, List.length_nil]; decide) ?_; refine t_seq ?_)
  (have hA := hl; have hP := And.intro h49 (And.intro h24 (And.intro h13 (And.intro h29 (And.intro h17 (And.intro h21 (And.intro h47 (True.intro))))))); have hNE := True.intro; have hC := True.intro; repeat' first
      | with_reducible first | refine k_seq ?_ | refine t_seq ?_ | refine t_reg ?_ | refine t_nil ?_ | refine t_ret ?_
      | refine ae_val ?_
      | refine ae_callS ?_
      | refine ae_gval ?_
      | refine ae_gcallO ?_
      | (refine ae_alloc ?_; intro la ha hn1; have hNE := And.intro hNE hn1)
      | refine ae_store ?_)
  (first | apply pend rs11 | apply pendN rs11); (focus (simp (maxDischargeDepth := 8) only [hNE, go_sem]; first | done | exact rfl)); (focus (simp (maxDischargeDepth := 8) only [hNE, go_sem]; first | done | exact rfl))
end Go.Proofs.Ythdgdngdfijfhaa
namespace Go.Proofs.Ythdgdngdfijfhaa
open Go.ChangeShapes Go.WideShapes Go.ChangeAt Go.RowKit Go.Deep Go.Proofs
set_option linter.unusedVariables false
set_option linter.unusedSimpArgs false
section
variable {H : Type} {enc : TypeId × Value → H} {w : World} {r : Reach} {b0 : Nat} {base : Nat} {sp : Nat → Bool} {held : Bool} {v : Value} {d : DataW H} {ps : List MemPlace}
set_option maxRecDepth 100000 in
theorem arg3 (hv : Value.okWide Try.prog w r b0 3 v) (h : DataW.Trod enc Try.prog w base sp held 3 v d ps) : ∃ n : Int, (Lit.int .i64 n).wf = true ∧ VR w noO v (.int .i64 n) := arg_int u_3 hv h
set_option maxRecDepth 100000 in
theorem arg9 (hv : Value.okWide Try.prog w r b0 9 v) (h : DataW.Trod enc Try.prog w base sp held 9 v d ps) : ∃ s : List UInt8, s.length ≤ maxLen ∧ VR w noO v (.str s) := arg_str u_9 hv h
end
theorem ownKn : ownKnob Try.prog.godebug = none := by kernel_rfl
theorem laidOut : laidOutB Try.prog = true := by kernel_rfl
end Go.Proofs.Ythdgdngdfijfhaa
namespace Go.Proofs.Ythdgdngdfijfhaa
open Go.RowKit Go.Proofs
set_option linter.unusedVariables false
set_option linter.unusedSimpArgs false
theorem nextF_nil : (nextF []).ok = false := rfl
theorem sumN_zeros : ∀ (m i n : Nat), n + (m * i + m * (m + 1) / 2) < 65521 → sumN (List.replicate m 0) i n = n + (m * i + m * (m + 1) / 2)
  | 0, i, n, _ => by simp [sumN]
  | m + 1, i, n, h => by
    have e0 : (m + 1) * (m + 1 + 1) / 2 = m * (m + 1) / 2 + (m + 1) := by
      rw [show (m + 1) * (m + 1 + 1) = m * (m + 1) + (m + 1) * 2 by rw [Nat.add_mul, Nat.mul_add]; omega, Nat.add_mul_div_right _ _ (by decide)]
    have e1 : (m + 1) * i = m * i + i := by rw [Nat.add_mul, Nat.one_mul]
    have e2 : m * (i + 1) = m * i + m := by rw [Nat.mul_add, Nat.mul_one]
    rw [List.replicate_succ, sumN]
    have h1 : (n + ((0 : UInt8).toNat + 1) * (i + 1)) % 65521 = n + (i + 1) := by
      rw [show ((0 : UInt8).toNat + 1) * (i + 1) = i + 1 by simp]
      exact Nat.mod_eq_of_lt (by omega)
    rw [h1, sumN_zeros m (i + 1) (n + (i + 1)) (by omega)]
    omega
theorem slt_nz (n w : Nat) (x : List UInt8) (hn : n ≤ 60) (hw : w ≤ 200) (hx : x.length = w) : sltF n x ≠ List.replicate (w + 4) 0 := by
  intro e
  rw [sltF, smdF] at e
  have h1 : x = List.replicate w 0 := by
    have := congrArg (List.take w) e
    rw [← hx, List.take_left] at this
    rw [this, List.take_replicate, hx]
    congr 1; omega
  have h2 : leB (sumF ([UInt8.ofNat n] ++ x)) 4 = List.replicate 4 0 := by
    have := congrArg (List.drop w) e
    rw [← hx, List.drop_left] at this
    rw [this, List.drop_replicate, hx]
    congr 1; omega
  have h3 : sumF ([UInt8.ofNat n] ++ x) = (n + 1) + (w * 1 + w * (w + 1) / 2) := by
    have hb : w * (w + 1) / 2 ≤ 20100 := by
      have : w * (w + 1) ≤ 200 * 201 := Nat.mul_le_mul hw (by omega)
      omega
    have hu : (UInt8.ofNat n).toNat = n := by simp; omega
    rw [h1, sumF, List.singleton_append, sumN, hu, show (0 + (n + 1) * (0 + 1)) % 65521 = n + 1 by rw [Nat.zero_add, Nat.mul_one]; exact Nat.mod_eq_of_lt (by omega)]
    exact sumN_zeros w (0 + 1) (n + 1) (by omega)
  have h4 := congrArg numL h2
  rw [numL_leB 4 _ (by have := sumF_lt ([UInt8.ofNat n] ++ x); omega), h3] at h4
  have : numL (List.replicate 4 0) = 0 := by decide
  omega
def slot1 (w n : Nat) (x : List UInt8 × Bool) : List UInt8 := if x.2 = true then sltF n x.1 else List.replicate (w + 4) 0
def sl (w : Nat) : List (List UInt8 × Bool) → Nat → List UInt8
  | [], _ => []
  | x :: r, n => slot1 w n x ++ sl w r (n + 1)
end Go.Proofs.Ythdgdngdfijfhaa
namespace Go.Proofs.Ythdgdngdfijfhaa
open Go.RowKit Go.Proofs
set_option linter.unusedVariables false
set_option linter.unusedSimpArgs false
def EvTo (s : List UInt8) (l : List Ev) (t : List UInt8) : Prop := EvV s.length l ∧ wrF s l = t
theorem EvTo.nil (s : List UInt8) : EvTo s [] s := ⟨trivial, rfl⟩
theorem EvTo.cons {s t : List UInt8} {x : Ev} {l : List Ev} (h : (sizeF s.length x).2 = 0) (ht : EvTo (aftF s x) l t) : EvTo s (x :: l) t := by
  obtain ⟨h1, h2, _⟩ := sizeF_le h
  refine ⟨⟨h, ?_⟩, ht.2⟩
  rw [h2, ← aft_len h1]; exact ht.1
theorem EvTo.append {s t r : List UInt8} : ∀ {l l2 : List Ev}, EvTo s l t → EvTo t l2 r → EvTo s (l ++ l2) r := by
  intro l
  induction l generalizing s with
  | nil => intro l2 h h2; obtain ⟨_, rfl⟩ := h; exact h2
  | cons x l ih =>
    intro l2 h h2
    obtain ⟨⟨h3, h4⟩, h5⟩ := h
    obtain ⟨h6, h7, _⟩ := sizeF_le h3
    rw [h7, ← aft_len h6] at h4
    exact EvTo.cons h3 (ih ⟨h4, h5⟩ h2)
end Go.Proofs.Ythdgdngdfijfhaa
namespace Go.Proofs.Ythdgdngdfijfhaa
open Go.RowKit Go.Proofs
set_option linter.unusedVariables false
set_option linter.unusedSimpArgs false
attribute [local irreducible] PPure CallN Tops TopsDm T
theorem nextF_ok {t : List UInt8} (h : (nextF t).ok = true) : (nextF t).rest = t.drop ((nextF t).rcd.length + 8) ∧ (nextF t).rcd.length + 8 ≤ t.length := by
  unfold nextF at h ⊢
  split at h
  · cases h
  · rename_i k hk
    simp only at h ⊢
    split at h
    · cases h
    · rename_i h1
      rw [if_neg h1]
      split at h
      · cases h
      · rename_i h2
        rw [if_neg h2]
        split at h
        · cases h
        · rename_i h3
          rw [if_neg h3]
          have hl : ((t.take (numL ((t.take 4).drop 1) + 4)).drop 4).length = numL ((t.take 4).drop 1) := by rw [List.length_drop, List.length_take]; omega
          refine ⟨by simp only [hl], by simp only [hl]; omega⟩
def scanS : Nat → List UInt8 → Nat → List (List UInt8) → (List (List UInt8) × Bool) × Nat
  | 0, s, a, rs => ((rs, false), a)
  | f + 1, s, a, rs => if (frG s a).2 = false then ((rs, false), a) else if (frG s a).1.1 = 69 then ((rs, true), a + 8 + (frG s a).1.2.length) else scanS f s (a + 8 + (frG s a).1.2.length) (rs ++ [(frG s a).1.2])
theorem frG_no {s : List UInt8} {a : Nat} (h : (frG s a).2 = false) : (nextF (s.drop a)).ok = false := by
  unfold frG at h
  split at h
  · cases h
  · rename_i e; simpa using e
theorem frG_yes {s : List UInt8} {a : Nat} (h : (frG s a).2 = true) : (nextF (s.drop a)).ok = true ∧ (frG s a).1 = ((nextF (s.drop a)).kind, (nextF (s.drop a)).rcd) ∧
    (nextF (s.drop a)).rest = s.drop (a + 8 + (frG s a).1.2.length) ∧ a + 8 + (frG s a).1.2.length ≤ s.length := by
  unfold frG at h ⊢
  split at h
  · rename_i e
    rw [if_pos e]
    obtain ⟨h1, h2⟩ := nextF_ok e
    rw [List.drop_drop] at h1
    have h3 : (s.drop a).length = s.length - a := List.length_drop
    refine ⟨e, rfl, ?_, ?_⟩
    · show (nextF (s.drop a)).rest = s.drop (a + 8 + (nextF (s.drop a)).rcd.length)
      rw [h1]; congr 1; omega
    · show a + 8 + (nextF (s.drop a)).rcd.length ≤ s.length
      omega
  · cases h
theorem scanS_no {f : Nat} {s : List UInt8} {a : Nat} {rs : List (List UInt8)} (h : (frG s a).2 = false) : scanS (f + 1) s a rs = ((rs, false), a) := by rw [scanS, if_pos h]
theorem scanS_end {f : Nat} {s : List UInt8} {a : Nat} {rs : List (List UInt8)} (h : (frG s a).2 = true) (h6 : (frG s a).1.1 = 69) : scanS (f + 1) s a rs = ((rs, true), a + 8 + (frG s a).1.2.length) := by rw [scanS, if_neg (by rw [h]; decide), if_pos h6]
theorem scanS_go {f : Nat} {s : List UInt8} {a : Nat} {rs : List (List UInt8)} (h : (frG s a).2 = true) (h6 : ¬ (frG s a).1.1 = 69) : scanS (f + 1) s a rs = scanS f s (a + 8 + (frG s a).1.2.length) (rs ++ [(frG s a).1.2]) := by rw [scanS, if_neg (by rw [h]; decide), if_neg h6]
theorem scanS_len : ∀ (f : Nat) (s : List UInt8) (a : Nat) (rs : List (List UInt8)), rs.length ≤ (scanS f s a rs).1.1.length
  | 0, s, a, rs => Nat.le_refl _
  | f + 1, s, a, rs => by
    rw [scanS]
    split
    · exact Nat.le_refl _
    · split
      · exact Nat.le_refl _
      · have := scanS_len f s (a + 8 + (frG s a).1.2.length) (rs ++ [(frG s a).1.2])
        simp at this; omega
theorem openL_scan : ∀ (f : Nat) (s : List UInt8) (a : Nat) (rs : List (List UInt8)), s.length < a + 8 * f → rs.length ≤ 60 →
    openL (62 - rs.length) (s.drop a) rs = if 60 < (scanS f s a rs).1.1.length then ((zeU, 0), 8) else ((mkSq (scanS f s a rs).1.1 (scanS f s a rs).1.2, s.length - (scanS f s a rs).2), 0)
  | 0, s, a, rs, hf, hl => by
    have h1 : s.drop a = [] := List.drop_of_length_le (by omega)
    obtain ⟨k, hk⟩ : ∃ k, 62 - rs.length = k + 1 := ⟨61 - rs.length, by omega⟩
    rw [hk, openL, h1, if_pos nextF_nil, scanS, if_neg (by show ¬ 60 < rs.length; omega)]
    show ((mkSq rs false, 0), 0) = ((mkSq rs false, s.length - a), 0)
    rw [show s.length - a = 0 by omega]
  | f + 1, s, a, rs, hf, hl => by
    obtain ⟨k, hk⟩ : ∃ k, 62 - rs.length = k + 1 := ⟨61 - rs.length, by omega⟩
    cases h : (frG s a).2 with
    | false =>
      rw [hk, openL, scanS_no h, if_pos (frG_no h), if_neg (by show ¬ 60 < rs.length; omega), List.length_drop]
    | true =>
      obtain ⟨h1, h2, h3, h4⟩ := frG_yes h
      have h5 : (nextF (s.drop a)).kind = (frG s a).1.1 := by rw [h2]
      have h6 : (nextF (s.drop a)).rcd = (frG s a).1.2 := by rw [h2]
      rw [hk, openL, if_neg (by rw [h1]; decide), h5, h6, h3]
      by_cases h69 : (frG s a).1.1 = 69
      · rw [if_pos h69, scanS_end h h69, if_neg (by show ¬ 60 < rs.length; omega), List.length_drop]
      · rw [if_neg h69, scanS_go h h69]
        by_cases h60 : rs.length = 60
        · rw [if_pos h60, if_pos]
          have := scanS_len f s (a + 8 + (frG s a).1.2.length) (rs ++ [(frG s a).1.2])
          simp at this; omega
        · rw [if_neg h60]
          have := openL_scan f s (a + 8 + (frG s a).1.2.length) (rs ++ [(frG s a).1.2]) (by omega) (by simp; omega)
          rw [show 62 - (rs ++ [(frG s a).1.2]).length = k by simp; omega] at this
          exact this
set_option maxHeartbeats 8000000 in
theorem p20s (s : List UInt8) (hl : s.length ≤ 20000) : PPure Try.prog 20 [.int .i64 0, .int .i64 0, .str s] (.tup [encU (openL 62 s []).1.1, .int .i64 ((openL 62 s []).1.2 : Int), .int .i64 (openL 62 s []).2]) := by
  have h52 := p52 0 0
  have hac : accF 0 0 = 0 := by decide
  rw [hac] at h52
  have ho := openL_scan (s.length + 1) s 0 [] (by omega) (by simp)
  rw [List.drop_zero, show 62 - ([] : List (List UInt8)).length = 62 from rfl] at ho
  obtain ⟨R, hR⟩ : ∃ R, scanS (s.length + 1) s 0 [] = R := ⟨_, rfl⟩
  rw [ho, hR]
  (refine ppure_of_T ok20 (by simp only [List.length_cons, List.length_nil]; decide) ?_; refine t_seq ?_)
  have hNE := True.intro; have hC := True.intro; have hA := True.intro; have hP := True.intro
  (replace hA := True.intro; replace hP := And.intro h52 (True.intro); repeat' first | ((with_reducible apply gt_call); first | refine ce_callS ?_ | refine ce_callO ?_) | ((with_reducible apply gt_alloc); (refine ce_alloc ?_; intro la ha hn1; replace hNE := And.intro hNE hn1)) | ((with_reducible apply gt_store); refine ce_store ?_) | ((with_reducible refine gt_appT app_22 ?_); first | refine ce_appendE app_22 c_9 ?_ | (refine ce_appendL app_22 c_9 ?_; intro la ha hn1; replace hNE := And.intro hNE hn1) | refine ce_append app_22 c_9 ?_ ?_ | (refine ce_appendB app_22 c_9 ?_; intro la ha hn1; replace hNE := And.intro hNE hn1)) | ((with_reducible apply gd_store); first | refine de_store ?_ | refine de_storeZ ?_) | ((with_reducible refine gd_appT app_22 ?_); first | (refine de_appendU app_22 c_9 ?_; intro la ha hn1; replace hNE := And.intro hNE hn1) | refine de_append app_22 c_9 ?_ ?_ | (refine de_appendL app_22 c_9 ?_; intro la ha hn1; replace hNE := And.intro hNE hn1) | (refine de_appendB app_22 c_9 ?_; intro la ha hn1; replace hNE := And.intro hNE hn1)) | ((with_reducible refine gd_appT app_23 ?_); first | (refine de_appendU app_23 c_4 ?_; intro la ha hn1; replace hNE := And.intro hNE hn1) | refine de_append app_23 c_4 ?_ ?_ | (refine de_appendL app_23 c_4 ?_; intro la ha hn1; replace hNE := And.intro hNE hn1) | (refine de_appendB app_23 c_4 ?_; intro la ha hn1; replace hNE := And.intro hNE hn1)) | ((with_reducible apply gt_cond); first | refine c_cond ?_ ?_ | refine c_condB ?_ ?_) | ((with_reducible apply gt_any); refine ce_val ?_) | ((with_reducible apply gd_any); refine de_val ?_) | ((with_reducible apply gt_drw); first | refine ce_drwA ?_ | refine ce_drwE ?_ | refine ce_drwK ?_ | refine ce_drwZ ?_) | with_reducible first | refine k_seq ?_ | refine t_seq ?_ | refine t_reg ?_ | refine t_nil ?_ | refine t_skip ?_ | refine t_ret ?_ | refine t_exit ?_ | refine k_seq_exit ?_ | refine k_seq_ret ?_ | refine k_blk_exit ?_ | refine k_blk_other (by decide) ?_ | refine k_blk_ret ?_ | refine k_blk ?_ | refine t_block ?_ | refine m_nil ?_ | (with_reducible intro hc; with_reducible exact Bool.noConfusion hc) | (with_reducible intro hc la ha hn1; replace hNE := And.intro hNE hn1) | (with_reducible intro hc; replace hC := And.intro hC hc))
  rename_i l6 a6 n6 ln an nn c1 c2
  obtain ⟨lu, h5⟩ : ∃ l, l = la := ⟨la, rfl⟩
  subst h5
  refine t_loopX (fun (k1 : Nat) (E1 : Nat → PV) (H1 : Hp) => ∃ (a : Nat) (rs : List (List UInt8)) (e : Bool) (lr : Lab), a ≤ s.length ∧ 8 * rs.length ≤ a ∧ (e = false → s.length < a + 8 * k1) ∧ (if e = true then ((rs, true), a) else scanS k1 s a rs) = R ∧ ((l6 = ln) = False ∧ (ln = l6) = False ∧ (l6 = lu) = False ∧ (lu = l6) = False ∧ (ln = lu) = False ∧ (lu = ln) = False ∧ (l6 = lr) = False ∧ (lr = l6) = False ∧ (ln = lr) = False ∧ (lr = ln) = False ∧ (lu = lr) = False ∧ (lr = lu) = False) ∧ (E1 12 = .int .i64 (a : Int)) ∧ H1 = hp [(l6, .row true 7 ([zU])), (ln, .row true 7 ([zU])), (lu, .row true 7 ([.agg [.int .i64 0, .int .i64 0, .arr lr 1 0 rs.length, .list .nil [], .str [], .bool e, .int .i64 0]])), (lr, .row true 1 (rs.map encS))]) (s.length + 1) ?_ ?_
  intro Ng
  obtain ⟨g_lr, g_lr1, g_lr2⟩ := ghost_new Ng [l6, ln, lu]
  have g_lr3 := (And.intro (g_lr2 l6 (by simp only [List.mem_cons, List.mem_nil_iff, true_or, or_true])) (And.intro (g_lr2 ln (by simp only [List.mem_cons, List.mem_nil_iff, true_or, or_true])) (g_lr2 lu (by simp only [List.mem_cons, List.mem_nil_iff, true_or, or_true]))))
  replace hA := And.intro hA g_lr3
  refine ⟨_, _, wkE_id, (by repeat' first | exact rowsok_nil | refine rowsok_cons ?_ ?_ | exact rowok_ghost (by assumption) | exact rowA | ((try simp only [zU, List.map_nil, cast0]) <;> exact rowA)), 0, [], false, g_lr, (by first | omega | rfl | assumption | (first | exact lv_eq | ((try simp only [zU, List.map_nil, cast0]) <;> exact lv_eq) | (simp (maxDischargeDepth := 8) only [go_sem, hNE, hA, zU, List.map_nil, cast0, List.length_append, List.length_cons, List.length_nil, Nat.zero_add]; first | done | rfl))), (by first | omega | rfl | assumption | (first | exact lv_eq | ((try simp only [zU, List.map_nil, cast0]) <;> exact lv_eq) | (simp (maxDischargeDepth := 8) only [go_sem, hNE, hA, zU, List.map_nil, cast0, List.length_append, List.length_cons, List.length_nil, Nat.zero_add]; first | done | rfl))), ?_, ?_, (by (repeat' apply And.intro) <;> exact lv_eq), (by (repeat' apply And.intro) <;> first | exact lv_eq | ((try simp only [zU, List.map_nil, cast0]) <;> exact lv_eq) | (simp (maxDischargeDepth := 8) only [go_sem, hNE, hA, zU, List.map_nil, cast0, List.length_append, List.length_cons, List.length_nil, Nat.zero_add]; first | done | rfl)), rfl⟩
  · intro _; omega
  · exact hR
  rintro k1 E1 H1 hfr1 ⟨a, rs, e, lr, hal, hrl, hf, hr, ⟨d1_0, d1_1, d1_2, d1_3, d1_4, d1_5, d1_6, d1_7, d1_8, d1_9, d1_10, d1_11⟩, h1_12, rfl⟩
  have e1_2 := hfr1 2 rfl; have e1_6 := hfr1 6 rfl; have e1_7 := hfr1 7 rfl; have e1_8 := hfr1 8 rfl; have e1_9 := hfr1 9 rfl; have e1_11 := hfr1 11 rfl
  simp (maxDischargeDepth := 8) only [go_sem, zU, List.map_nil, cast0, hNE] at e1_2 e1_6 e1_7 e1_8 e1_9 e1_11
  clear hfr1
  have d1 := And.intro d1_0 (And.intro d1_1 (And.intro d1_2 (And.intro d1_3 (And.intro d1_4 (And.intro d1_5 (And.intro d1_6 (And.intro d1_7 (And.intro d1_8 (And.intro d1_9 (And.intro d1_10 (d1_11)))))))))))
  simp only [zU]
  cases e with
  | true =>
    have hr : ((rs, true), a) = R := hr
    subst hr
    by_cases h60 : 60 < rs.length
    · (replace hA := And.intro e1_2 (And.intro e1_6 (And.intro e1_7 (And.intro e1_8 (And.intro e1_9 (And.intro e1_11 (And.intro h1_12 (d1))))))); replace hP := True.intro; repeat' first | ((with_reducible apply gt_call); first | refine ce_callS ?_ | refine ce_callO ?_) | ((with_reducible apply gt_alloc); (refine ce_alloc ?_; intro la ha hn1; replace hNE := And.intro hNE hn1)) | ((with_reducible apply gt_store); refine ce_store ?_) | ((with_reducible refine gt_appT app_22 ?_); first | refine ce_appendE app_22 c_9 ?_ | (refine ce_appendL app_22 c_9 ?_; intro la ha hn1; replace hNE := And.intro hNE hn1) | refine ce_append app_22 c_9 ?_ ?_ | (refine ce_appendB app_22 c_9 ?_; intro la ha hn1; replace hNE := And.intro hNE hn1)) | ((with_reducible apply gd_store); first | refine de_store ?_ | refine de_storeZ ?_) | ((with_reducible refine gd_appT app_22 ?_); first | (refine de_appendU app_22 c_9 ?_; intro la ha hn1; replace hNE := And.intro hNE hn1) | refine de_append app_22 c_9 ?_ ?_ | (refine de_appendL app_22 c_9 ?_; intro la ha hn1; replace hNE := And.intro hNE hn1) | (refine de_appendB app_22 c_9 ?_; intro la ha hn1; replace hNE := And.intro hNE hn1)) | ((with_reducible refine gd_appT app_23 ?_); first | (refine de_appendU app_23 c_4 ?_; intro la ha hn1; replace hNE := And.intro hNE hn1) | refine de_append app_23 c_4 ?_ ?_ | (refine de_appendL app_23 c_4 ?_; intro la ha hn1; replace hNE := And.intro hNE hn1) | (refine de_appendB app_23 c_4 ?_; intro la ha hn1; replace hNE := And.intro hNE hn1)) | ((with_reducible apply gt_cond); first | refine c_cond ?_ ?_ | refine c_condB ?_ ?_) | ((with_reducible apply gt_any); refine ce_val ?_) | ((with_reducible apply gd_any); refine de_val ?_) | ((with_reducible apply gt_drw); first | refine ce_drwA ?_ | refine ce_drwE ?_ | refine ce_drwK ?_ | refine ce_drwZ ?_) | with_reducible first | refine k_seq ?_ | refine t_seq ?_ | refine t_reg ?_ | refine t_nil ?_ | refine t_skip ?_ | refine t_ret ?_ | refine t_exit ?_ | refine k_seq_exit ?_ | refine k_seq_ret ?_ | refine k_blk_exit ?_ | refine k_blk_other (by decide) ?_ | refine k_blk_ret ?_ | refine k_blk ?_ | refine k_invX_ret ?_ | refine k_invX_exit ?_ | refine t_block ?_ | refine m_nil ?_ | (with_reducible intro hc; with_reducible exact Bool.noConfusion hc) | (with_reducible intro hc la ha hn1; replace hNE := And.intro hNE hn1) | (with_reducible intro hc; replace hC := And.intro hC hc))
      all_goals ((first | refine cpendE rs20 ?_ | refine cpendNE rs20 ?_); ((try simp only [encU, zeU, List.map_nil]) <;> exact fin_eq))
    · (replace hA := And.intro e1_2 (And.intro e1_6 (And.intro e1_7 (And.intro e1_8 (And.intro e1_9 (And.intro e1_11 (And.intro h1_12 (d1))))))); replace hP := True.intro; repeat' first | ((with_reducible apply gt_call); first | refine ce_callS ?_ | refine ce_callO ?_) | ((with_reducible apply gt_alloc); (refine ce_alloc ?_; intro la ha hn1; replace hNE := And.intro hNE hn1)) | ((with_reducible apply gt_store); refine ce_store ?_) | ((with_reducible refine gt_appT app_22 ?_); first | refine ce_appendE app_22 c_9 ?_ | (refine ce_appendL app_22 c_9 ?_; intro la ha hn1; replace hNE := And.intro hNE hn1) | refine ce_append app_22 c_9 ?_ ?_ | (refine ce_appendB app_22 c_9 ?_; intro la ha hn1; replace hNE := And.intro hNE hn1)) | ((with_reducible apply gd_store); first | refine de_store ?_ | refine de_storeZ ?_) | ((with_reducible refine gd_appT app_22 ?_); first | (refine de_appendU app_22 c_9 ?_; intro la ha hn1; replace hNE := And.intro hNE hn1) | refine de_append app_22 c_9 ?_ ?_ | (refine de_appendL app_22 c_9 ?_; intro la ha hn1; replace hNE := And.intro hNE hn1) | (refine de_appendB app_22 c_9 ?_; intro la ha hn1; replace hNE := And.intro hNE hn1)) | ((with_reducible refine gd_appT app_23 ?_); first | (refine de_appendU app_23 c_4 ?_; intro la ha hn1; replace hNE := And.intro hNE hn1) | refine de_append app_23 c_4 ?_ ?_ | (refine de_appendL app_23 c_4 ?_; intro la ha hn1; replace hNE := And.intro hNE hn1) | (refine de_appendB app_23 c_4 ?_; intro la ha hn1; replace hNE := And.intro hNE hn1)) | ((with_reducible apply gt_cond); first | refine c_cond ?_ ?_ | refine c_condB ?_ ?_) | ((with_reducible apply gt_any); refine ce_val ?_) | ((with_reducible apply gd_any); refine de_val ?_) | ((with_reducible apply gt_drw); first | refine ce_drwA ?_ | refine ce_drwE ?_ | refine ce_drwK ?_ | refine ce_drwZ ?_) | with_reducible first | refine k_seq ?_ | refine t_seq ?_ | refine t_reg ?_ | refine t_nil ?_ | refine t_skip ?_ | refine t_ret ?_ | refine t_exit ?_ | refine k_seq_exit ?_ | refine k_seq_ret ?_ | refine k_blk_exit ?_ | refine k_blk_other (by decide) ?_ | refine k_blk_ret ?_ | refine k_blk ?_ | refine k_invX_ret ?_ | refine k_invX_exit ?_ | refine t_block ?_ | refine m_nil ?_ | (with_reducible intro hc; with_reducible exact Bool.noConfusion hc) | (with_reducible intro hc la ha hn1; replace hNE := And.intro hNE hn1) | (with_reducible intro hc; replace hC := And.intro hC hc))
      all_goals ((first | refine cpendE rs20 ?_ | refine cpendNE rs20 ?_); ((try simp only [encU, mkSq, List.map_nil]) <;> exact fin_eq))
  | false =>
    have hf := hf rfl
    have hr : scanS k1 s a rs = R := hr
    have h66 := p66 s a (by omega) (by omega)
    cases hq : (frG s a).2 with
    | false =>
      have hr2 : R = ((rs, false), a) := by
        rw [← hr]
        cases k1 with
        | zero => rfl
        | succ f => exact scanS_no hq
      subst hr2
      generalize frG s a = q at h66 hq
      by_cases h60 : 60 < rs.length
      · (replace hA := And.intro e1_2 (And.intro e1_6 (And.intro e1_7 (And.intro e1_8 (And.intro e1_9 (And.intro e1_11 (And.intro h1_12 (And.intro d1 (hq)))))))); replace hP := And.intro h66 (True.intro); repeat' first | ((with_reducible apply gt_call); first | refine ce_callS ?_ | refine ce_callO ?_) | ((with_reducible apply gt_alloc); (refine ce_alloc ?_; intro la ha hn1; replace hNE := And.intro hNE hn1)) | ((with_reducible apply gt_store); refine ce_store ?_) | ((with_reducible refine gt_appT app_22 ?_); first | refine ce_appendE app_22 c_9 ?_ | (refine ce_appendL app_22 c_9 ?_; intro la ha hn1; replace hNE := And.intro hNE hn1) | refine ce_append app_22 c_9 ?_ ?_ | (refine ce_appendB app_22 c_9 ?_; intro la ha hn1; replace hNE := And.intro hNE hn1)) | ((with_reducible apply gd_store); first | refine de_store ?_ | refine de_storeZ ?_) | ((with_reducible refine gd_appT app_22 ?_); first | (refine de_appendU app_22 c_9 ?_; intro la ha hn1; replace hNE := And.intro hNE hn1) | refine de_append app_22 c_9 ?_ ?_ | (refine de_appendL app_22 c_9 ?_; intro la ha hn1; replace hNE := And.intro hNE hn1) | (refine de_appendB app_22 c_9 ?_; intro la ha hn1; replace hNE := And.intro hNE hn1)) | ((with_reducible refine gd_appT app_23 ?_); first | (refine de_appendU app_23 c_4 ?_; intro la ha hn1; replace hNE := And.intro hNE hn1) | refine de_append app_23 c_4 ?_ ?_ | (refine de_appendL app_23 c_4 ?_; intro la ha hn1; replace hNE := And.intro hNE hn1) | (refine de_appendB app_23 c_4 ?_; intro la ha hn1; replace hNE := And.intro hNE hn1)) | ((with_reducible apply gt_cond); first | refine c_cond ?_ ?_ | refine c_condB ?_ ?_) | ((with_reducible apply gt_any); refine ce_val ?_) | ((with_reducible apply gd_any); refine de_val ?_) | ((with_reducible apply gt_drw); first | refine ce_drwA ?_ | refine ce_drwE ?_ | refine ce_drwK ?_ | refine ce_drwZ ?_) | with_reducible first | refine k_seq ?_ | refine t_seq ?_ | refine t_reg ?_ | refine t_nil ?_ | refine t_skip ?_ | refine t_ret ?_ | refine t_exit ?_ | refine k_seq_exit ?_ | refine k_seq_ret ?_ | refine k_blk_exit ?_ | refine k_blk_other (by decide) ?_ | refine k_blk_ret ?_ | refine k_blk ?_ | refine k_invX_ret ?_ | refine k_invX_exit ?_ | refine t_block ?_ | refine m_nil ?_ | (with_reducible intro hc; with_reducible exact Bool.noConfusion hc) | (with_reducible intro hc la ha hn1; replace hNE := And.intro hNE hn1) | (with_reducible intro hc; replace hC := And.intro hC hc))
        all_goals ((first | refine cpendE rs20 ?_ | refine cpendNE rs20 ?_); ((try simp only [encU, zeU, List.map_nil]) <;> exact fin_eq))
      · (replace hA := And.intro e1_2 (And.intro e1_6 (And.intro e1_7 (And.intro e1_8 (And.intro e1_9 (And.intro e1_11 (And.intro h1_12 (And.intro d1 (hq)))))))); replace hP := And.intro h66 (True.intro); repeat' first | ((with_reducible apply gt_call); first | refine ce_callS ?_ | refine ce_callO ?_) | ((with_reducible apply gt_alloc); (refine ce_alloc ?_; intro la ha hn1; replace hNE := And.intro hNE hn1)) | ((with_reducible apply gt_store); refine ce_store ?_) | ((with_reducible refine gt_appT app_22 ?_); first | refine ce_appendE app_22 c_9 ?_ | (refine ce_appendL app_22 c_9 ?_; intro la ha hn1; replace hNE := And.intro hNE hn1) | refine ce_append app_22 c_9 ?_ ?_ | (refine ce_appendB app_22 c_9 ?_; intro la ha hn1; replace hNE := And.intro hNE hn1)) | ((with_reducible apply gd_store); first | refine de_store ?_ | refine de_storeZ ?_) | ((with_reducible refine gd_appT app_22 ?_); first | (refine de_appendU app_22 c_9 ?_; intro la ha hn1; replace hNE := And.intro hNE hn1) | refine de_append app_22 c_9 ?_ ?_ | (refine de_appendL app_22 c_9 ?_; intro la ha hn1; replace hNE := And.intro hNE hn1) | (refine de_appendB app_22 c_9 ?_; intro la ha hn1; replace hNE := And.intro hNE hn1)) | ((with_reducible refine gd_appT app_23 ?_); first | (refine de_appendU app_23 c_4 ?_; intro la ha hn1; replace hNE := And.intro hNE hn1) | refine de_append app_23 c_4 ?_ ?_ | (refine de_appendL app_23 c_4 ?_; intro la ha hn1; replace hNE := And.intro hNE hn1) | (refine de_appendB app_23 c_4 ?_; intro la ha hn1; replace hNE := And.intro hNE hn1)) | ((with_reducible apply gt_cond); first | refine c_cond ?_ ?_ | refine c_condB ?_ ?_) | ((with_reducible apply gt_any); refine ce_val ?_) | ((with_reducible apply gd_any); refine de_val ?_) | ((with_reducible apply gt_drw); first | refine ce_drwA ?_ | refine ce_drwE ?_ | refine ce_drwK ?_ | refine ce_drwZ ?_) | with_reducible first | refine k_seq ?_ | refine t_seq ?_ | refine t_reg ?_ | refine t_nil ?_ | refine t_skip ?_ | refine t_ret ?_ | refine t_exit ?_ | refine k_seq_exit ?_ | refine k_seq_ret ?_ | refine k_blk_exit ?_ | refine k_blk_other (by decide) ?_ | refine k_blk_ret ?_ | refine k_blk ?_ | refine k_invX_ret ?_ | refine k_invX_exit ?_ | refine t_block ?_ | refine m_nil ?_ | (with_reducible intro hc; with_reducible exact Bool.noConfusion hc) | (with_reducible intro hc la ha hn1; replace hNE := And.intro hNE hn1) | (with_reducible intro hc; replace hC := And.intro hC hc))
        all_goals ((first | refine cpendE rs20 ?_ | refine cpendNE rs20 ?_); ((try simp only [encU, mkSq, List.map_nil]) <;> exact fin_eq))
    | true =>
      obtain ⟨_, _, _, h4⟩ := frG_yes hq
      obtain ⟨f, hkf⟩ : ∃ f, k1 = f + 1 := ⟨k1 - 1, by omega⟩
      rw [hkf] at hr hf
      by_cases h69 : (frG s a).1.1 = 69
      · rw [scanS_end hq h69] at hr
        generalize frG s a = q at h66 hq h4 h69 hr
        (replace hA := And.intro e1_2 (And.intro e1_6 (And.intro e1_7 (And.intro e1_8 (And.intro e1_9 (And.intro e1_11 (And.intro h1_12 (And.intro d1 (hq)))))))); replace hP := And.intro h66 (True.intro); repeat' first | ((with_reducible apply gt_call); first | refine ce_callS ?_ | refine ce_callO ?_) | ((with_reducible apply gt_alloc); (refine ce_alloc ?_; intro la ha hn1; replace hNE := And.intro hNE hn1)) | ((with_reducible apply gt_store); refine ce_store ?_) | ((with_reducible refine gt_appT app_22 ?_); first | refine ce_appendE app_22 c_9 ?_ | (refine ce_appendL app_22 c_9 ?_; intro la ha hn1; replace hNE := And.intro hNE hn1) | refine ce_append app_22 c_9 ?_ ?_ | (refine ce_appendB app_22 c_9 ?_; intro la ha hn1; replace hNE := And.intro hNE hn1)) | ((with_reducible apply gd_store); first | refine de_store ?_ | refine de_storeZ ?_) | ((with_reducible refine gd_appT app_22 ?_); first | (refine de_appendU app_22 c_9 ?_; intro la ha hn1; replace hNE := And.intro hNE hn1) | refine de_append app_22 c_9 ?_ ?_ | (refine de_appendL app_22 c_9 ?_; intro la ha hn1; replace hNE := And.intro hNE hn1) | (refine de_appendB app_22 c_9 ?_; intro la ha hn1; replace hNE := And.intro hNE hn1)) | ((with_reducible refine gd_appT app_23 ?_); first | (refine de_appendU app_23 c_4 ?_; intro la ha hn1; replace hNE := And.intro hNE hn1) | refine de_append app_23 c_4 ?_ ?_ | (refine de_appendL app_23 c_4 ?_; intro la ha hn1; replace hNE := And.intro hNE hn1) | (refine de_appendB app_23 c_4 ?_; intro la ha hn1; replace hNE := And.intro hNE hn1)) | ((with_reducible apply gt_cond); first | refine c_cond ?_ ?_ | refine c_condB ?_ ?_) | ((with_reducible apply gt_any); refine ce_val ?_) | ((with_reducible apply gd_any); refine de_val ?_) | ((with_reducible apply gt_drw); first | refine ce_drwA ?_ | refine ce_drwE ?_ | refine ce_drwK ?_ | refine ce_drwZ ?_) | with_reducible first | refine k_seq ?_ | refine t_seq ?_ | refine t_reg ?_ | refine t_nil ?_ | refine t_skip ?_ | refine t_ret ?_ | refine t_exit ?_ | refine k_seq_exit ?_ | refine k_seq_ret ?_ | refine k_blk_exit ?_ | refine k_blk_other (by decide) ?_ | refine k_blk_ret ?_ | refine k_blk ?_ | refine k_invX_ret ?_ | refine k_invX_exit ?_ | refine t_block ?_ | refine m_nil ?_ | (with_reducible intro hc; with_reducible exact Bool.noConfusion hc) | (with_reducible intro hc la ha hn1; replace hNE := And.intro hNE hn1) | (with_reducible intro hc; replace hC := And.intro hC hc))
        refine k_invX (k1 - 1) (by omega) ?_
        intro Ng
        replace hA := And.intro hA (And.intro e1_2 (And.intro e1_6 (And.intro e1_7 (And.intro e1_8 (And.intro e1_9 (And.intro e1_11 (And.intro h1_12 (d1))))))))
        refine ⟨_, _, wkE_id, (by repeat' first | exact rowsok_nil | refine rowsok_cons ?_ ?_ | exact rowok_ghost (by assumption) | exact rowA), a + 8 + q.1.2.length, rs, true, lr, (by first | omega | (simp only [List.length_append, List.length_cons, List.length_nil, List.length_drop, List.length_take, List.length_map]; omega)), (by first | omega | (simp only [List.length_append, List.length_cons, List.length_nil, List.length_drop, List.length_take, List.length_map]; omega)), ?_, ?_, (by (repeat' apply And.intro) <;> exact lv_eq), (by (repeat' apply And.intro) <;> exact lv_eq), rfl⟩
        · intro h; cases h
        · exact hr
      · rw [scanS_go hq h69] at hr
        generalize frG s a = q at h66 hq h4 h69 hr
        have ex : List.map encS (rs ++ [q.1.2]) = List.map encS rs ++ [.str q.1.2] := by simp [encS]
        (replace hA := And.intro e1_2 (And.intro e1_6 (And.intro e1_7 (And.intro e1_8 (And.intro e1_9 (And.intro e1_11 (And.intro h1_12 (And.intro d1 (hq)))))))); replace hP := And.intro h66 (True.intro); repeat' first | ((with_reducible apply gt_call); first | refine ce_callS ?_ | refine ce_callO ?_) | ((with_reducible apply gt_alloc); (refine ce_alloc ?_; intro la ha hn1; replace hNE := And.intro hNE hn1)) | ((with_reducible apply gt_store); refine ce_store ?_) | ((with_reducible refine gt_appT app_22 ?_); first | refine ce_appendE app_22 c_9 ?_ | (refine ce_appendL app_22 c_9 ?_; intro la ha hn1; replace hNE := And.intro hNE hn1) | refine ce_append app_22 c_9 ?_ ?_ | (refine ce_appendB app_22 c_9 ?_; intro la ha hn1; replace hNE := And.intro hNE hn1)) | ((with_reducible apply gd_store); first | refine de_store ?_ | refine de_storeZ ?_) | ((with_reducible refine gd_appT app_22 ?_); first | (refine de_appendU app_22 c_9 ?_; intro la ha hn1; replace hNE := And.intro hNE hn1) | refine de_append app_22 c_9 ?_ ?_ | (refine de_appendL app_22 c_9 ?_; intro la ha hn1; replace hNE := And.intro hNE hn1) | (refine de_appendB app_22 c_9 ?_; intro la ha hn1; replace hNE := And.intro hNE hn1)) | ((with_reducible refine gd_appT app_23 ?_); first | (refine de_appendU app_23 c_4 ?_; intro la ha hn1; replace hNE := And.intro hNE hn1) | refine de_append app_23 c_4 ?_ ?_ | (refine de_appendL app_23 c_4 ?_; intro la ha hn1; replace hNE := And.intro hNE hn1) | (refine de_appendB app_23 c_4 ?_; intro la ha hn1; replace hNE := And.intro hNE hn1)) | ((with_reducible apply gt_cond); first | refine c_cond ?_ ?_ | refine c_condB ?_ ?_) | ((with_reducible apply gt_any); refine ce_val ?_) | ((with_reducible apply gd_any); refine de_val ?_) | ((with_reducible apply gt_drw); first | refine ce_drwA ?_ | refine ce_drwE ?_ | refine ce_drwK ?_ | refine ce_drwZ ?_) | with_reducible first | refine k_seq ?_ | refine t_seq ?_ | refine t_reg ?_ | refine t_nil ?_ | refine t_skip ?_ | refine t_ret ?_ | refine t_exit ?_ | refine k_seq_exit ?_ | refine k_seq_ret ?_ | refine k_blk_exit ?_ | refine k_blk_other (by decide) ?_ | refine k_blk_ret ?_ | refine k_blk ?_ | refine k_invX_ret ?_ | refine k_invX_exit ?_ | refine t_block ?_ | refine m_nil ?_ | (with_reducible intro hc; with_reducible exact Bool.noConfusion hc) | (with_reducible intro hc la ha hn1; replace hNE := And.intro hNE hn1) | (with_reducible intro hc; replace hC := And.intro hC hc))
        refine k_invX (k1 - 1) (by omega) ?_
        intro Ng
        replace hA := And.intro hA (And.intro e1_2 (And.intro e1_6 (And.intro e1_7 (And.intro e1_8 (And.intro e1_9 (And.intro e1_11 (And.intro h1_12 (And.intro d1 (ex)))))))))
        refine ⟨_, _, wkE_id, (by repeat' first | exact rowsok_nil | refine rowsok_cons ?_ ?_ | exact rowok_ghost (by assumption) | exact rowA), a + 8 + q.1.2.length, rs ++ [q.1.2], false, la, (by first | omega | (simp only [List.length_append, List.length_cons, List.length_nil, List.length_drop, List.length_take, List.length_map]; omega)), (by first | omega | (simp only [List.length_append, List.length_cons, List.length_nil, List.length_drop, List.length_take, List.length_map]; omega)), ?_, ?_, (by (repeat' apply And.intro) <;> exact lv_eq), (by (repeat' apply And.intro) <;> exact lv_eq), rfl⟩
        · intro _; rw [hkf]; omega
        · rw [hkf]; exact hr
end Go.Proofs.Ythdgdngdfijfhaa
namespace Go.Proofs.Ythdgdngdfijfhaa
open Go.RowKit Go.Proofs
set_option linter.unusedVariables false
set_option linter.unusedSimpArgs false
attribute [local irreducible] PPure CallN Tops TopsDm T
def partD (w : Nat) (s : List UInt8) (i : Nat) : List UInt8 := (s.take ((i + 1) * (w + 4))).drop (i * (w + 4))
theorem partD_drop (w : Nat) (s : List UInt8) (i : Nat) : partD w (s.drop (w + 4)) i = partD w s (i + 1) := by
  unfold partD
  rw [List.take_drop, List.drop_drop, ← Nat.add_comm ((i + 1) * (w + 4)), show (i + 1) * (w + 4) + (w + 4) = (i + 1 + 1) * (w + 4) by rw [Nat.add_mul (i + 1) 1, Nat.one_mul], show w + 4 + i * (w + 4) = (i + 1) * (w + 4) by rw [Nat.add_mul i 1, Nat.one_mul]; omega]
theorem scanL_get (w : Nat) : ∀ (i f n : Nat) (s : List UInt8), i < f → (i + 1) * (w + 4) ≤ s.length → (scanL w f n s)[i]? = some (slotOf w (n + i) (partD w s i))
  | i, 0, n, s, hf, _ => by omega
  | 0, f + 1, n, s, _, hl => by
    rw [scanL, if_neg (by omega)]
    simp [partD]
  | i + 1, f + 1, n, s, hf, hl => by
    have h1 : (i + 1 + 1) * (w + 4) = (i + 1) * (w + 4) + (w + 4) := by rw [Nat.add_mul (i + 1) 1, Nat.one_mul]
    rw [scanL, if_neg (by omega), List.getElem?_cons_succ, scanL_get w i f (n + 1) (s.drop (w + 4)) (by omega) (by rw [List.length_drop]; omega), partD_drop, show n + 1 + i = n + (i + 1) by omega]
theorem scanL_length (w : Nat) : ∀ (f n : Nat) (s : List UInt8), (scanL w f n s).length = min (s.length / (w + 4)) f
  | 0, n, s => by simp [scanL]
  | f + 1, n, s => by
    rw [scanL]
    split
    · rename_i h; rw [Nat.div_eq_of_lt h]; simp
    · rename_i h
      rw [List.length_cons, scanL_length w f (n + 1), List.length_drop]
      have : s.length / (w + 4) = (s.length - (w + 4)) / (w + 4) + 1 := by
        rw [← Nat.add_div_right _ (by omega)]; congr 1; omega
      omega
theorem slotOf_eq (w n : Nat) (own : List UInt8) (hw : w ≤ 200) (hn : n ≤ 60) (hl : own.length = w + 4) : slotOf w n own = if own = sltF n (own.take w) then (own.take w, true) else ([], false) := by
  by_cases h : own = sltF n (own.take w)
  · have h1 : (own == List.replicate (w + 4) 0) = false := by
      have := slt_nz n w (own.take w) hn hw (by simp; omega)
      rw [← h] at this
      simpa using this
    have h2 : (own == sltF n (own.take w)) = true := by simpa using h
    rw [if_pos h, slotOf, isSlot, h1, h2]; rfl
  · have h2 : (own == sltF n (own.take w)) = false := by simpa using h
    rw [if_neg h, slotOf, isSlot, h2, Bool.and_false]; rfl
set_option maxHeartbeats 8000000 in
theorem p20d (w : Nat) (s : List UInt8) (hw1 : 1 ≤ w) (hw2 : w ≤ 200) (hl : s.length ≤ 20000) :
    PPure Try.prog 20 [.int .i64 1, .int .i64 (w : Int), .str s] (.tup [encU (odF w s), .int .i64 ((s.length : Int) - (((min (s.length / (w + 4)) 60) * (w + 4) : Nat) : Int)), .int .i64 0]) := by
  have h52 := p52 1 w
  have hac : accF 1 w = 0 := by simp [accF, btw, orE, rfs]; omega
  rw [hac] at h52
  obtain ⟨R, hR⟩ : ∃ R, scanL w 60 1 s = R := ⟨_, rfl⟩
  obtain ⟨C, hCe⟩ : ∃ C, min (s.length / (w + 4)) 60 = C := ⟨_, rfl⟩
  have hRl : R.length = C := by rw [← hR, scanL_length, hCe]
  have hdv : (s.length : Int).tdiv ((w + 4 : Nat) : Int) = ((s.length / (w + 4) : Nat) : Int) := rfl
  have hq : s.length / (w + 4) ≤ 20000 := Nat.le_trans (Nat.div_le_self _ _) hl
  have hmn : (if (60 : Int) < ((s.length / (w + 4) : Nat) : Int) then (60 : Int) else ((s.length / (w + 4) : Nat) : Int)) = (C : Int) := by rw [← hCe]; split <;> omega
  have e0 : odF w s = ⟨1, w, (R.take (trimN R R.length)).map (·.1), (R.take (trimN R R.length)).map (·.2), [], false, 0⟩ := by rw [odF, hR]
  have hCs : C * (w + 4) ≤ s.length := by
    have : C ≤ s.length / (w + 4) := by omega
    exact (Nat.le_div_iff_mul_le (by omega)).1 this
  rw [e0, hCe]
  (refine ppure_of_T ok20 (by simp only [List.length_cons, List.length_nil]; decide) ?_; refine t_seq ?_)
  have hNE := True.intro; have hC := True.intro; have hA := True.intro; have hP := True.intro
  (replace hA := And.intro hdv (hmn); replace hP := And.intro h52 (True.intro); repeat' first | ((with_reducible apply gt_call); first | refine ce_callS ?_ | refine ce_callO ?_) | ((with_reducible apply gt_alloc); (refine ce_alloc ?_; intro la ha hn1; replace hNE := And.intro hNE hn1)) | ((with_reducible apply gt_store); refine ce_store ?_) | ((with_reducible refine gt_appT app_22 ?_); first | refine ce_appendE app_22 c_9 ?_ | (refine ce_appendL app_22 c_9 ?_; intro la ha hn1; replace hNE := And.intro hNE hn1) | refine ce_append app_22 c_9 ?_ ?_ | (refine ce_appendB app_22 c_9 ?_; intro la ha hn1; replace hNE := And.intro hNE hn1)) | ((with_reducible apply gd_store); first | refine de_store ?_ | refine de_storeZ ?_) | ((with_reducible refine gd_appT app_22 ?_); first | (refine de_appendU app_22 c_9 ?_; intro la ha hn1; replace hNE := And.intro hNE hn1) | refine de_append app_22 c_9 ?_ ?_ | (refine de_appendL app_22 c_9 ?_; intro la ha hn1; replace hNE := And.intro hNE hn1) | (refine de_appendB app_22 c_9 ?_; intro la ha hn1; replace hNE := And.intro hNE hn1)) | ((with_reducible refine gd_appT app_23 ?_); first | (refine de_appendU app_23 c_4 ?_; intro la ha hn1; replace hNE := And.intro hNE hn1) | refine de_append app_23 c_4 ?_ ?_ | (refine de_appendL app_23 c_4 ?_; intro la ha hn1; replace hNE := And.intro hNE hn1) | (refine de_appendB app_23 c_4 ?_; intro la ha hn1; replace hNE := And.intro hNE hn1)) | ((with_reducible apply gt_cond); first | refine c_cond ?_ ?_ | refine c_condB ?_ ?_) | ((with_reducible apply gt_any); refine ce_val ?_) | ((with_reducible apply gd_any); refine de_val ?_) | ((with_reducible apply gt_drw); first | refine ce_drwA ?_ | refine ce_drwE ?_ | refine ce_drwK ?_ | refine ce_drwZ ?_) | with_reducible first | refine k_seq ?_ | refine t_seq ?_ | refine t_reg ?_ | refine t_nil ?_ | refine t_skip ?_ | refine t_ret ?_ | refine t_exit ?_ | refine k_seq_exit ?_ | refine k_seq_ret ?_ | refine k_blk_exit ?_ | refine k_blk_other (by decide) ?_ | refine k_blk_ret ?_ | refine k_blk ?_ | refine t_block ?_ | refine m_nil ?_ | (with_reducible intro hc; with_reducible exact Bool.noConfusion hc) | (with_reducible intro hc la ha hn1; replace hNE := And.intro hNE hn1) | (with_reducible intro hc; replace hC := And.intro hC hc))
  rename_i l6 a6 n6 ln an nn c1 c2 c3
  obtain ⟨lu, h5⟩ : ∃ l, l = la := ⟨la, rfl⟩
  subst h5
  have hCl : C ≤ 60 := by omega
  refine t_loopX (fun (k3 : Nat) (E3 : Nat → PV) (H3 : Hp) => ∃ (i : Nat) (lr : Lab) (lt : Lab), i + k3 = C ∧ ((l6 = ln) = False ∧ (ln = l6) = False ∧ (l6 = lu) = False ∧ (lu = l6) = False ∧ (ln = lu) = False ∧ (lu = ln) = False ∧ (l6 = lr) = False ∧ (lr = l6) = False ∧ (ln = lr) = False ∧ (lr = ln) = False ∧ (lu = lr) = False ∧ (lr = lu) = False ∧ (l6 = lt) = False ∧ (lt = l6) = False ∧ (ln = lt) = False ∧ (lt = ln) = False ∧ (lu = lt) = False ∧ (lt = lu) = False ∧ (lr = lt) = False ∧ (lt = lr) = False) ∧ (E3 18 = .int .i64 ((trimN R i : Nat) : Int) ∧ E3 19 = .int .i64 (i : Int)) ∧ H3 = hp [(l6, .row true 7 ([zU])), (ln, .row true 7 ([zU])), (lu, .row true 7 ([.agg [.int .i64 1, .int .i64 w, .arr lr 1 0 i, .arr lt 1 0 i, .str [], .bool false, .int .i64 0]])), (lr, .row true 1 ((R.take i).map encR1)), (lt, .row true 1 ((R.take i).map encR2))]) (C) ?_ ?_
  intro Ng
  obtain ⟨g_lr, g_lr1, g_lr2⟩ := ghost_new Ng [l6, ln, lu]
  have g_lr3 := (And.intro (g_lr2 l6 (by simp only [List.mem_cons, List.mem_nil_iff, true_or, or_true])) (And.intro (g_lr2 ln (by simp only [List.mem_cons, List.mem_nil_iff, true_or, or_true])) (g_lr2 lu (by simp only [List.mem_cons, List.mem_nil_iff, true_or, or_true]))))
  obtain ⟨g_lt, g_lt1, g_lt2⟩ := ghost_new Ng [l6, ln, lu, g_lr]
  have g_lt3 := (And.intro (g_lt2 l6 (by simp only [List.mem_cons, List.mem_nil_iff, true_or, or_true])) (And.intro (g_lt2 ln (by simp only [List.mem_cons, List.mem_nil_iff, true_or, or_true])) (And.intro (g_lt2 lu (by simp only [List.mem_cons, List.mem_nil_iff, true_or, or_true])) (g_lt2 g_lr (by simp only [List.mem_cons, List.mem_nil_iff, true_or, or_true])))))
  replace hA := And.intro hA (And.intro g_lr3 (g_lt3))
  refine ⟨_, _, wkE_id, (by repeat' first | exact rowsok_nil | refine rowsok_cons ?_ ?_ | exact rowok_ghost (by assumption) | exact rowA | ((try simp only [zU, trimN, cast0, List.take_zero, List.map_nil]) <;> exact rowA)), 0, g_lr, g_lt, (by first | omega | rfl | assumption | (first | exact lv_eq | ((try simp only [zU, trimN, cast0, List.take_zero, List.map_nil]) <;> exact lv_eq) | (simp (maxDischargeDepth := 8) only [go_sem, hNE, hA, zU, trimN, cast0, List.take_zero, List.map_nil, List.length_append, List.length_cons, List.length_nil, Nat.zero_add]; first | done | rfl))), (by (repeat' apply And.intro) <;> exact lv_eq), (by (repeat' apply And.intro) <;> first | exact lv_eq | ((try simp only [zU, trimN, cast0, List.take_zero, List.map_nil]) <;> exact lv_eq) | (simp (maxDischargeDepth := 8) only [go_sem, hNE, hA, zU, trimN, cast0, List.take_zero, List.map_nil, List.length_append, List.length_cons, List.length_nil, Nat.zero_add]; first | done | rfl)), rfl⟩
  rintro k3 E3 H3 hfr3 ⟨i, lr, lt, hi0, ⟨d3_0, d3_1, d3_2, d3_3, d3_4, d3_5, d3_6, d3_7, d3_8, d3_9, d3_10, d3_11, d3_12, d3_13, d3_14, d3_15, d3_16, d3_17, d3_18, d3_19⟩, ⟨h3_18, h3_19⟩, rfl⟩
  have e3_1 := hfr3 1 rfl; have e3_2 := hfr3 2 rfl; have e3_6 := hfr3 6 rfl; have e3_7 := hfr3 7 rfl; have e3_8 := hfr3 8 rfl; have e3_11 := hfr3 11 rfl; have e3_16 := hfr3 16 rfl; have e3_17 := hfr3 17 rfl
  simp (maxDischargeDepth := 8) only [go_sem, zU, trimN, cast0, List.take_zero, List.map_nil, hNE] at e3_1 e3_2 e3_6 e3_7 e3_8 e3_11 e3_16 e3_17
  clear hfr3
  have d3 := And.intro d3_0 (And.intro d3_1 (And.intro d3_2 (And.intro d3_3 (And.intro d3_4 (And.intro d3_5 (And.intro d3_6 (And.intro d3_7 (And.intro d3_8 (And.intro d3_9 (And.intro d3_10 (And.intro d3_11 (And.intro d3_12 (And.intro d3_13 (And.intro d3_14 (And.intro d3_15 (And.intro d3_16 (And.intro d3_17 (And.intro d3_18 (d3_19)))))))))))))))))))
  simp only [zU]
  by_cases hi : i < C
  · have hm1 : i * (w + 4) + (w + 4) = (i + 1) * (w + 4) := by rw [Nat.add_mul, Nat.one_mul]
    have hm2 : (i + 1) * (w + 4) ≤ C * (w + 4) := Nat.mul_le_mul_right _ (by omega)
    have hg := scanL_get w i 60 1 s (by omega) (by omega)
    rw [hR] at hg
    obtain ⟨own, ho⟩ : ∃ own, partD w s i = own := ⟨_, rfl⟩
    have hol : own.length = w + 4 := by rw [← ho, partD]; simp; omega
    rw [ho, show 1 + i = i + 1 by omega, slotOf_eq w (i + 1) own hw2 (by omega) hol] at hg
    unfold partD at ho
    have htk : (own.take w).length = w := by simp; omega
    have h64 := p64 (i + 1) (own.take w) (by omega) (by omega)
    have hiR : i < R.length := by omega
    have hRi : R[i]? = some R[i] := List.getElem?_eq_getElem hiR
    rw [hRi] at hg
    have hg := Option.some.inj hg
    have t1 : (R.take (i + 1)).map encR1 = (R.take i).map encR1 ++ [encR1 R[i]] := by rw [take_in hiR, List.map_append]; rfl
    have t2 : (R.take (i + 1)).map encR2 = (R.take i).map encR2 ++ [encR2 R[i]] := by rw [take_in hiR, List.map_append]; rfl
    have t3 : List.take i ((R.take i).map encR1) = (R.take i).map encR1 := List.take_of_length_le (by rw [List.length_map, List.length_take]; omega)
    have t4 : List.take i ((R.take i).map encR2) = (R.take i).map encR2 := List.take_of_length_le (by rw [List.length_map, List.length_take]; omega)
    have t5 : ((R.take i).map encR1).length = i := by simp; omega
    have t6 : ((R.take i).map encR2).length = i := by simp; omega
    by_cases hz : own = sltF (i + 1) (own.take w)
    · rw [if_pos hz] at hg
      have hz1 : (own = sltF (i + 1) (own.take w)) = True := eq_true hz
      have et : trimN R (i + 1) = i + 1 := by rw [trimN, hRi, hg]; rfl
      rw [hg] at t1 t2
      clear hz
      (replace hA := And.intro e3_1 (And.intro e3_2 (And.intro e3_6 (And.intro e3_7 (And.intro e3_8 (And.intro e3_11 (And.intro e3_16 (And.intro e3_17 (And.intro h3_18 (And.intro h3_19 (And.intro d3 (And.intro ho (And.intro hz1 (And.intro t5 (t6)))))))))))))); replace hP := And.intro h64 (True.intro); repeat' first | ((with_reducible apply gt_call); first | refine ce_callS ?_ | refine ce_callO ?_) | ((with_reducible apply gt_alloc); (refine ce_alloc ?_; intro la ha hn1; replace hNE := And.intro hNE hn1)) | ((with_reducible apply gt_store); refine ce_store ?_) | ((with_reducible refine gt_appT app_22 ?_); first | refine ce_appendE app_22 c_9 ?_ | (refine ce_appendL app_22 c_9 ?_; intro la ha hn1; replace hNE := And.intro hNE hn1) | refine ce_append app_22 c_9 ?_ ?_ | (refine ce_appendB app_22 c_9 ?_; intro la ha hn1; replace hNE := And.intro hNE hn1)) | ((with_reducible apply gd_store); first | refine de_store ?_ | refine de_storeZ ?_) | ((with_reducible refine gd_appT app_22 ?_); first | (refine de_appendQ app_22 c_9 ?_; intro la ha; have hn1 := or_ne ha; replace hNE := And.intro hNE hn1) | (refine de_appendU app_22 c_9 ?_; intro la ha hn1; replace hNE := And.intro hNE hn1) | refine de_append app_22 c_9 ?_ ?_ | (refine de_appendL app_22 c_9 ?_; intro la ha hn1; replace hNE := And.intro hNE hn1) | (refine de_appendB app_22 c_9 ?_; intro la ha hn1; replace hNE := And.intro hNE hn1)) | ((with_reducible refine gd_appT app_23 ?_); first | (refine de_appendQ app_23 c_4 ?_; intro la ha; have hn1 := or_ne ha; replace hNE := And.intro hNE hn1) | (refine de_appendU app_23 c_4 ?_; intro la ha hn1; replace hNE := And.intro hNE hn1) | refine de_append app_23 c_4 ?_ ?_ | (refine de_appendL app_23 c_4 ?_; intro la ha hn1; replace hNE := And.intro hNE hn1) | (refine de_appendB app_23 c_4 ?_; intro la ha hn1; replace hNE := And.intro hNE hn1)) | ((with_reducible apply gt_cond); first | refine c_cond ?_ ?_ | refine c_condB ?_ ?_) | ((with_reducible apply gt_any); refine ce_val ?_) | ((with_reducible apply gd_any); refine de_val ?_) | ((with_reducible apply gt_drw); first | refine ce_drwH lr lt ?_ | refine ce_drwA ?_ | refine ce_drwE ?_ | refine ce_drwK ?_ | refine ce_drwZ ?_) | with_reducible first | refine k_seq ?_ | refine t_seq ?_ | refine t_reg ?_ | refine t_nil ?_ | refine t_skip ?_ | refine t_ret ?_ | refine t_exit ?_ | refine k_seq_exit ?_ | refine k_seq_ret ?_ | refine k_blk_exit ?_ | refine k_blk_other (by decide) ?_ | refine k_blk_ret ?_ | refine k_blk ?_ | refine k_invX_ret ?_ | refine k_invX_exit ?_ | refine t_block ?_ | refine m_nil ?_ | (with_reducible intro hc; with_reducible exact Bool.noConfusion hc) | (with_reducible intro hc la ha hn1; replace hNE := And.intro hNE hn1) | (with_reducible intro hc; replace hC := And.intro hC hc))
      rename_i lr2 _ _
      refine k_invX (k3 - 1) (by omega) ?_
      intro Ng
      replace hA := And.intro hA (And.intro e3_1 (And.intro e3_2 (And.intro e3_6 (And.intro e3_7 (And.intro e3_8 (And.intro e3_11 (And.intro e3_16 (And.intro e3_17 (And.intro h3_18 (And.intro h3_19 (And.intro d3 (And.intro t1 (And.intro t2 (And.intro t3 (And.intro t4 (et))))))))))))))))
      refine ⟨_, _, wkE_id, (by repeat' first | exact rowsok_nil | refine rowsok_cons ?_ ?_ | exact rowok_ghost (by assumption) | exact rowA | ((try simp only [encR1, encR2]) <;> exact rowA)), i + 1, lr2, la, (by first | omega | (simp only [List.length_append, List.length_cons, List.length_nil, List.length_drop, List.length_take, List.length_map]; omega)), (by (repeat' apply And.intro) <;> exact lv_eq), (by (repeat' apply And.intro) <;> first | exact lv_eq | ((try simp only [encR1, encR2]) <;> exact lv_eq) | (simp (maxDischargeDepth := 8) only [go_sem, hNE, hA, encR1, encR2, List.length_append, List.length_cons, List.length_nil, Nat.zero_add]; first | done | rfl)), rfl⟩
    · rw [if_neg hz] at hg
      have hz1 : (own = sltF (i + 1) (own.take w)) = False := eq_false hz
      have et : trimN R (i + 1) = trimN R i := by rw [trimN, hRi, hg]; rfl
      rw [hg] at t1 t2
      (replace hA := And.intro e3_1 (And.intro e3_2 (And.intro e3_6 (And.intro e3_7 (And.intro e3_8 (And.intro e3_11 (And.intro e3_16 (And.intro e3_17 (And.intro h3_18 (And.intro h3_19 (And.intro d3 (And.intro ho (And.intro hz1 (And.intro t5 (t6)))))))))))))); replace hP := And.intro h64 (True.intro); repeat' first | ((with_reducible apply gt_call); first | refine ce_callS ?_ | refine ce_callO ?_) | ((with_reducible apply gt_alloc); (refine ce_alloc ?_; intro la ha hn1; replace hNE := And.intro hNE hn1)) | ((with_reducible apply gt_store); refine ce_store ?_) | ((with_reducible refine gt_appT app_22 ?_); first | refine ce_appendE app_22 c_9 ?_ | (refine ce_appendL app_22 c_9 ?_; intro la ha hn1; replace hNE := And.intro hNE hn1) | refine ce_append app_22 c_9 ?_ ?_ | (refine ce_appendB app_22 c_9 ?_; intro la ha hn1; replace hNE := And.intro hNE hn1)) | ((with_reducible apply gd_store); first | refine de_store ?_ | refine de_storeZ ?_) | ((with_reducible refine gd_appT app_22 ?_); first | (refine de_appendQ app_22 c_9 ?_; intro la ha; have hn1 := or_ne ha; replace hNE := And.intro hNE hn1) | (refine de_appendU app_22 c_9 ?_; intro la ha hn1; replace hNE := And.intro hNE hn1) | refine de_append app_22 c_9 ?_ ?_ | (refine de_appendL app_22 c_9 ?_; intro la ha hn1; replace hNE := And.intro hNE hn1) | (refine de_appendB app_22 c_9 ?_; intro la ha hn1; replace hNE := And.intro hNE hn1)) | ((with_reducible refine gd_appT app_23 ?_); first | (refine de_appendQ app_23 c_4 ?_; intro la ha; have hn1 := or_ne ha; replace hNE := And.intro hNE hn1) | (refine de_appendU app_23 c_4 ?_; intro la ha hn1; replace hNE := And.intro hNE hn1) | refine de_append app_23 c_4 ?_ ?_ | (refine de_appendL app_23 c_4 ?_; intro la ha hn1; replace hNE := And.intro hNE hn1) | (refine de_appendB app_23 c_4 ?_; intro la ha hn1; replace hNE := And.intro hNE hn1)) | ((with_reducible apply gt_cond); first | refine c_cond ?_ ?_ | refine c_condB ?_ ?_) | ((with_reducible apply gt_any); refine ce_val ?_) | ((with_reducible apply gd_any); refine de_val ?_) | ((with_reducible apply gt_drw); first | refine ce_drwH lr lt ?_ | refine ce_drwA ?_ | refine ce_drwE ?_ | refine ce_drwK ?_ | refine ce_drwZ ?_) | with_reducible first | refine k_seq ?_ | refine t_seq ?_ | refine t_reg ?_ | refine t_nil ?_ | refine t_skip ?_ | refine t_ret ?_ | refine t_exit ?_ | refine k_seq_exit ?_ | refine k_seq_ret ?_ | refine k_blk_exit ?_ | refine k_blk_other (by decide) ?_ | refine k_blk_ret ?_ | refine k_blk ?_ | refine k_invX_ret ?_ | refine k_invX_exit ?_ | refine t_block ?_ | refine m_nil ?_ | (with_reducible intro hc; with_reducible exact Bool.noConfusion hc) | (with_reducible intro hc la ha hn1; replace hNE := And.intro hNE hn1) | (with_reducible intro hc; replace hC := And.intro hC hc))
      rename_i lr2 _ _
      refine k_invX (k3 - 1) (by omega) ?_
      intro Ng
      replace hA := And.intro hA (And.intro e3_1 (And.intro e3_2 (And.intro e3_6 (And.intro e3_7 (And.intro e3_8 (And.intro e3_11 (And.intro e3_16 (And.intro e3_17 (And.intro h3_18 (And.intro h3_19 (And.intro d3 (And.intro t1 (And.intro t2 (And.intro t3 (And.intro t4 (et))))))))))))))))
      refine ⟨_, _, wkE_id, (by repeat' first | exact rowsok_nil | refine rowsok_cons ?_ ?_ | exact rowok_ghost (by assumption) | exact rowA | ((try simp only [encR1, encR2]) <;> exact rowA)), i + 1, lr2, la, (by first | omega | (simp only [List.length_append, List.length_cons, List.length_nil, List.length_drop, List.length_take, List.length_map]; omega)), (by (repeat' apply And.intro) <;> exact lv_eq), (by (repeat' apply And.intro) <;> first | exact lv_eq | ((try simp only [encR1, encR2]) <;> exact lv_eq) | (simp (maxDischargeDepth := 8) only [go_sem, hNE, hA, encR1, encR2, List.length_append, List.length_cons, List.length_nil, Nat.zero_add]; first | done | rfl)), rfl⟩
  · have hiC : i = R.length := by omega
    have hCR : C = R.length := by omega
    have htl := trimN_le R R.length
    subst hiC
    rw [List.take_length] at *
    have z0 : (((trimN R R.length : Nat) : Int) - ((0 : Nat) : Int)).toNat = trimN R R.length := by omega
    (replace hA := And.intro e3_1 (And.intro e3_2 (And.intro e3_6 (And.intro e3_7 (And.intro e3_8 (And.intro e3_11 (And.intro e3_16 (And.intro e3_17 (And.intro h3_18 (And.intro h3_19 (And.intro d3 (And.intro z0 (htl)))))))))))); replace hP := True.intro; repeat' first | ((with_reducible apply gt_call); first | refine ce_callS ?_ | refine ce_callO ?_) | ((with_reducible apply gt_alloc); (refine ce_alloc ?_; intro la ha hn1; replace hNE := And.intro hNE hn1)) | ((with_reducible apply gt_store); refine ce_store ?_) | ((with_reducible refine gt_appT app_22 ?_); first | refine ce_appendE app_22 c_9 ?_ | (refine ce_appendL app_22 c_9 ?_; intro la ha hn1; replace hNE := And.intro hNE hn1) | refine ce_append app_22 c_9 ?_ ?_ | (refine ce_appendB app_22 c_9 ?_; intro la ha hn1; replace hNE := And.intro hNE hn1)) | ((with_reducible apply gd_store); first | refine de_store ?_ | refine de_storeZ ?_) | ((with_reducible refine gd_appT app_22 ?_); first | (refine de_appendU app_22 c_9 ?_; intro la ha hn1; replace hNE := And.intro hNE hn1) | refine de_append app_22 c_9 ?_ ?_ | (refine de_appendL app_22 c_9 ?_; intro la ha hn1; replace hNE := And.intro hNE hn1) | (refine de_appendB app_22 c_9 ?_; intro la ha hn1; replace hNE := And.intro hNE hn1)) | ((with_reducible refine gd_appT app_23 ?_); first | (refine de_appendU app_23 c_4 ?_; intro la ha hn1; replace hNE := And.intro hNE hn1) | refine de_append app_23 c_4 ?_ ?_ | (refine de_appendL app_23 c_4 ?_; intro la ha hn1; replace hNE := And.intro hNE hn1) | (refine de_appendB app_23 c_4 ?_; intro la ha hn1; replace hNE := And.intro hNE hn1)) | ((with_reducible apply gt_cond); first | refine c_cond ?_ ?_ | refine c_condB ?_ ?_) | ((with_reducible apply gt_any); refine ce_val ?_) | ((with_reducible apply gd_any); refine de_val ?_) | ((with_reducible apply gt_drw); first | refine ce_drwA ?_ | refine ce_drwE ?_ | refine ce_drwK ?_ | refine ce_drwZ ?_) | with_reducible first | refine k_seq ?_ | refine t_seq ?_ | refine t_reg ?_ | refine t_nil ?_ | refine t_skip ?_ | refine t_ret ?_ | refine t_exit ?_ | refine k_seq_exit ?_ | refine k_seq_ret ?_ | refine k_blk_exit ?_ | refine k_blk_other (by decide) ?_ | refine k_blk_ret ?_ | refine k_blk ?_ | refine k_invX_ret ?_ | refine k_invX_exit ?_ | refine t_block ?_ | refine m_nil ?_ | (with_reducible intro hc; with_reducible exact Bool.noConfusion hc) | (with_reducible intro hc la ha hn1; replace hNE := And.intro hNE hn1) | (with_reducible intro hc; replace hC := And.intro hC hc))
    all_goals ((first | refine cpendE rs20 ?_ | refine cpendNE rs20 ?_); ((try simp only [encU, mapR1, mapR2, List.map_take]) <;> exact fin_eq))
theorem openE_zero {a w : Int} {s : List UInt8} (h : openE a w s = 0) : ((a = 0 ∧ w = 0) ∨ (a = 1 ∧ 1 ≤ w ∧ w ≤ 200) ∨ (a = 2 ∧ w = 0)) ∧ s.length ≤ 20000 := by
  unfold openE at h
  rw [orE_zero] at h
  have g1 := h (accF a w) (by simp)
  have g2 := h (rfs (largeS s) 8) (by simp)
  have hlen : s.length ≤ 20000 := by
    rw [rfs_zero (by decide)] at g2
    simp [largeS] at g2; omega
  unfold accF at g1
  rw [orE_zero] at g1
  have g3 := g1 _ (List.mem_cons_self)
  have g4 := g1 _ (List.mem_cons_of_mem _ List.mem_cons_self)
  rw [rfs_zero (by decide)] at g3 g4
  simp at g3 g4
  rw [btw_true] at g3
  refine ⟨?_, hlen⟩
  by_cases h0 : a = 0
  · exact .inl ⟨h0, by simpa [h0] using g4⟩
  by_cases h1 : a = 1
  · exact .inr (.inl ⟨h1, by simpa [h1, btw_true] using g4⟩)
  · exact .inr (.inr ⟨by omega, by simpa [h1] using g4⟩)
set_option maxHeartbeats 8000000 in
theorem p20 (a w : Int) (s : List UInt8) (hl : s.length ≤ 20000) : PPure Try.prog 20 [.int .i64 a, .int .i64 w, .str s] (.tup [encU (openF a w s).1.1, .int .i64 (openF a w s).1.2, .int .i64 (openF a w s).2]) := by
  have hls : largeS s = false := by simp [largeS]; omega
  by_cases hz : openE a w s = 0
  · rcases (openE_zero hz).1 with ⟨rfl, rfl⟩ | ⟨rfl, h1, h2⟩ | ⟨rfl, rfl⟩
    · have hs : openF 0 0 s = (((openL 62 s []).1.1, ((openL 62 s []).1.2 : Int)), (openL 62 s []).2) := by simp [openF, hz]
      rw [hs]
      exact p20s s hl
    · obtain ⟨W, rfl⟩ : ∃ W : Nat, w = (W : Int) := ⟨w.toNat, by omega⟩
      have hs : openF 1 (W : Int) s = ((odF W s, (s.length : Int) - (min (s.length / (W + 4)) 60 : Nat) * ((W : Int) + 4)), 0) := by
        simp only [openF, hz, Int.toNat_natCast]; rfl
      have := p20d W s (by omega) (by omega) hl
      rw [hs]
      exact this
    · have h52 := p52 2 0
      have hac : accF 2 0 = 0 := by decide
      rw [hac] at h52
      have hs : openF 2 0 s = ((⟨2, 0, [], [], s.take 4000, false, 0⟩, (s.length : Int) - (s.take 4000).length), 0) := by simp [openF, hz]
      rw [hs]
      obtain ⟨m, hm⟩ : ∃ m, min s.length 4000 = m := ⟨_, rfl⟩
      have e4 : s.take 4000 = s.take m := by rw [← hm, List.take_eq_take_iff]; omega
      have e5 : (s.take m).length = m := by rw [List.length_take]; omega
      have mn : (if (4000 : Int) < (s.length : Int) then (4000 : Int) else (s.length : Int)) = (m : Int) := by split <;> omega
      rw [e4, e5]
      (refine ppure_of_T ok20 (by simp only [List.length_cons, List.length_nil]; decide) ?_; refine t_seq ?_)
      have hNE := True.intro; have hC := True.intro; have hA := True.intro; have hP := True.intro
      (replace hA := And.intro mn (e5); replace hP := And.intro h52 (True.intro); repeat' first | ((with_reducible apply gt_call); first | refine ce_callS ?_ | refine ce_callO ?_) | ((with_reducible apply gt_alloc); (refine ce_alloc ?_; intro la ha hn1; replace hNE := And.intro hNE hn1)) | ((with_reducible apply gt_store); refine ce_store ?_) | ((with_reducible refine gt_appT app_22 ?_); first | refine ce_appendE app_22 c_9 ?_ | (refine ce_appendL app_22 c_9 ?_; intro la ha hn1; replace hNE := And.intro hNE hn1) | refine ce_append app_22 c_9 ?_ ?_ | (refine ce_appendB app_22 c_9 ?_; intro la ha hn1; replace hNE := And.intro hNE hn1)) | ((with_reducible apply gd_store); first | refine de_store ?_ | refine de_storeZ ?_) | ((with_reducible refine gd_appT app_22 ?_); first | (refine de_appendU app_22 c_9 ?_; intro la ha hn1; replace hNE := And.intro hNE hn1) | refine de_append app_22 c_9 ?_ ?_ | (refine de_appendL app_22 c_9 ?_; intro la ha hn1; replace hNE := And.intro hNE hn1) | (refine de_appendB app_22 c_9 ?_; intro la ha hn1; replace hNE := And.intro hNE hn1)) | ((with_reducible refine gd_appT app_23 ?_); first | (refine de_appendU app_23 c_4 ?_; intro la ha hn1; replace hNE := And.intro hNE hn1) | refine de_append app_23 c_4 ?_ ?_ | (refine de_appendL app_23 c_4 ?_; intro la ha hn1; replace hNE := And.intro hNE hn1) | (refine de_appendB app_23 c_4 ?_; intro la ha hn1; replace hNE := And.intro hNE hn1)) | ((with_reducible apply gt_cond); first | refine c_cond ?_ ?_ | refine c_condB ?_ ?_) | ((with_reducible apply gt_any); refine ce_val ?_) | ((with_reducible apply gd_any); refine de_val ?_) | ((with_reducible apply gt_drw); first | refine ce_drwA ?_ | refine ce_drwE ?_ | refine ce_drwK ?_ | refine ce_drwZ ?_) | with_reducible first | refine k_seq ?_ | refine t_seq ?_ | refine t_reg ?_ | refine t_nil ?_ | refine t_skip ?_ | refine t_ret ?_ | refine t_exit ?_ | refine k_seq_exit ?_ | refine k_seq_ret ?_ | refine k_blk_exit ?_ | refine k_blk_other (by decide) ?_ | refine k_blk_ret ?_ | refine k_blk ?_ | refine t_block ?_ | refine m_nil ?_ | (with_reducible intro hc; with_reducible exact Bool.noConfusion hc) | (with_reducible intro hc la ha hn1; replace hNE := And.intro hNE hn1) | (with_reducible intro hc; replace hC := And.intro hC hc))
      all_goals ((first | refine cpendE rs20 ?_ | refine cpendNE rs20 ?_); ((try simp only [encU, List.map_nil]) <;> exact fin_eq))
  · have h52 := p52 a w
    have hac : ¬ accF a w = 0 := by
      intro e
      apply hz
      rw [openE, e, hls]; rfl
    have hs : openF a w s = ((zeU, 0), accF a w) := by
      have : openE a w s = accF a w := by simp [openE, orE, hac]
      rw [openF, if_pos (by rw [this]; exact hac), this]
    rw [hs]
    generalize accF a w = c at h52 hac ⊢
    (refine ppure_of_T ok20 (by simp only [List.length_cons, List.length_nil]; decide) ?_; refine t_seq ?_)
    have hNE := True.intro; have hC := True.intro; have hA := True.intro; have hP := True.intro
    (replace hA := True.intro; replace hP := And.intro h52 (True.intro); repeat' first | ((with_reducible apply gt_call); first | refine ce_callS ?_ | refine ce_callO ?_) | ((with_reducible apply gt_alloc); (refine ce_alloc ?_; intro la ha hn1; replace hNE := And.intro hNE hn1)) | ((with_reducible apply gt_store); refine ce_store ?_) | ((with_reducible refine gt_appT app_22 ?_); first | refine ce_appendE app_22 c_9 ?_ | (refine ce_appendL app_22 c_9 ?_; intro la ha hn1; replace hNE := And.intro hNE hn1) | refine ce_append app_22 c_9 ?_ ?_ | (refine ce_appendB app_22 c_9 ?_; intro la ha hn1; replace hNE := And.intro hNE hn1)) | ((with_reducible apply gd_store); first | refine de_store ?_ | refine de_storeZ ?_) | ((with_reducible refine gd_appT app_22 ?_); first | (refine de_appendU app_22 c_9 ?_; intro la ha hn1; replace hNE := And.intro hNE hn1) | refine de_append app_22 c_9 ?_ ?_ | (refine de_appendL app_22 c_9 ?_; intro la ha hn1; replace hNE := And.intro hNE hn1) | (refine de_appendB app_22 c_9 ?_; intro la ha hn1; replace hNE := And.intro hNE hn1)) | ((with_reducible refine gd_appT app_23 ?_); first | (refine de_appendU app_23 c_4 ?_; intro la ha hn1; replace hNE := And.intro hNE hn1) | refine de_append app_23 c_4 ?_ ?_ | (refine de_appendL app_23 c_4 ?_; intro la ha hn1; replace hNE := And.intro hNE hn1) | (refine de_appendB app_23 c_4 ?_; intro la ha hn1; replace hNE := And.intro hNE hn1)) | ((with_reducible apply gt_cond); first | refine c_cond ?_ ?_ | refine c_condB ?_ ?_) | ((with_reducible apply gt_any); refine ce_val ?_) | ((with_reducible apply gd_any); refine de_val ?_) | ((with_reducible apply gt_drw); first | refine ce_drwA ?_ | refine ce_drwE ?_ | refine ce_drwK ?_ | refine ce_drwZ ?_) | with_reducible first | refine k_seq ?_ | refine t_seq ?_ | refine t_reg ?_ | refine t_nil ?_ | refine t_skip ?_ | refine t_ret ?_ | refine t_exit ?_ | refine k_seq_exit ?_ | refine k_seq_ret ?_ | refine k_blk_exit ?_ | refine k_blk_other (by decide) ?_ | refine k_blk_ret ?_ | refine k_blk ?_ | refine t_block ?_ | refine m_nil ?_ | (with_reducible intro hc; with_reducible exact Bool.noConfusion hc) | (with_reducible intro hc la ha hn1; replace hNE := And.intro hNE hn1) | (with_reducible intro hc; replace hC := And.intro hC hc))
    all_goals ((first | refine cpendE rs20 ?_ | refine cpendNE rs20 ?_); ((try simp only [encU, zeU, List.map_nil]) <;> exact fin_eq))
end Go.Proofs.Ythdgdngdfijfhaa
namespace Go.Proofs.Ythdgdngdfijfhaa
open Go.RowKit Go.Proofs
set_option linter.unusedVariables false
set_option linter.unusedSimpArgs false
attribute [local irreducible] PPure CallN Tops TopsDm T
theorem openL_small : ∀ (f : Nat) (s : List UInt8) (rs : List (List UInt8)), rs.length ≤ 60 → (openL f s rs).1.1.recs.length ≤ 60 ∧ (openL f s rs).1.1.there.length ≤ 60
  | 0, s, rs, h => by simp [openL, zeU]
  | f + 1, s, rs, h => by
    rw [openL]
    split
    · exact ⟨h, by simp [mkSq]⟩
    · split
      · exact ⟨h, by simp [mkSq]⟩
      · split
        · simp [zeU]
        · exact openL_small f _ _ (by simp; omega)
theorem openF_small (a w : Int) (s : List UInt8) : (openF a w s).1.1.recs.length ≤ 60 ∧ (openF a w s).1.1.there.length ≤ 60 := by
  unfold openF
  split
  · simp [zeU]
  · split
    · exact openL_small 62 s [] (by simp)
    · split
      · simp
      · have h1 := scanL_len w.toNat 60 1 s
        simp only [odF, List.length_map, List.length_take]
        omega
set_option maxHeartbeats 8000000 in
theorem law4 (a w : Int) (s : List UInt8) : PPure Try.prog 4 [.int .i64 a, .int .i64 w, .str s] (.bool true) := by
  have h11 := p11
  by_cases hl : 20000 < s.length
  · (refine ppure_of_T ok4 (by simp only [List.length_cons, List.length_nil]; decide) ?_; refine t_seq ?_)
    have hNE := True.intro; have hC := True.intro; have hA := True.intro; have hP := True.intro
    (replace hA := True.intro; replace hP := And.intro h11 (True.intro); repeat' first | ((with_reducible apply gt_call); first | refine ce_callS ?_ | refine ce_callO ?_) | ((with_reducible apply gt_alloc); (refine ce_alloc ?_; intro la ha hn1; replace hNE := And.intro hNE hn1)) | ((with_reducible apply gt_store); refine ce_store ?_) | ((with_reducible apply gt_gcall); first | refine ce_gcallS ?_ | refine ce_gcallO ?_ | ((with_reducible apply te_gcall2); exact rfl; (focus (simp (maxDischargeDepth := 8) (disch := first | (with_reducible apply Om.mk; first | (simp (maxDischargeDepth := 8) only [go_sem, hNE, hA]; done) | (clear hP hC hNE hA; first | omega | (simp only [List.length_append, List.length_take, List.length_drop, List.length_map, List.length_replicate]; omega))) | (simp (maxDischargeDepth := 8) only [go_sem, hNE, hA]; done) | fail) only [go_sem, hNE, hA]; first | done | exact rfl)); (focus (simp (maxDischargeDepth := 8) (disch := first | (with_reducible apply Om.mk; first | (simp (maxDischargeDepth := 8) only [go_sem, hNE, hA]; done) | (clear hP hC hNE hA; first | omega | (simp only [List.length_append, List.length_take, List.length_drop, List.length_map, List.length_replicate]; omega))) | (simp (maxDischargeDepth := 8) only [go_sem, hNE, hA]; done) | fail) only [go_sem, hNE, hA]; first | done | exact rfl)); (focus (intro hG hG2; simp (maxDischargeDepth := 8) (disch := first | (with_reducible apply Om.mk; first | (simp (maxDischargeDepth := 8) only [go_sem, hNE, hA]; done) | (clear hP hC hNE hA; first | omega | (simp only [List.length_append, List.length_take, List.length_drop, List.length_map, List.length_replicate]; omega))) | (simp (maxDischargeDepth := 8) only [go_sem, hNE, hA]; done) | fail) only [go_sem, hNE, hA, hG, hG2]; first | done | exact rfl)); (focus (simp (maxDischargeDepth := 8) (disch := first | (with_reducible apply Om.mk; first | (simp (maxDischargeDepth := 8) only [go_sem, hNE, hA]; done) | (clear hP hC hNE hA; first | omega | (simp only [List.length_append, List.length_take, List.length_drop, List.length_map, List.length_replicate]; omega))) | (simp (maxDischargeDepth := 8) only [go_sem, hNE, hA]; done) | fail) only [go_sem, hNE, hA]; done)); (intro hG hG2; first | exact h11)) | refine ce_gno ?_ | refine ce_gskip ?_ | refine ce_gno2 ?_) | ((with_reducible apply gt_g); first | refine ce_gval ?_ | refine ce_gno ?_ | refine ce_gskip ?_ | refine ce_gval2 ?_ | refine ce_gno2 ?_) | ((with_reducible apply gt_cond); first | refine c_cond ?_ ?_ | refine c_condB ?_ ?_) | ((with_reducible apply gt_any); refine ce_val ?_) | with_reducible first | refine k_seq ?_ | refine t_seq ?_ | refine t_reg ?_ | refine t_nil ?_ | refine t_skip ?_ | refine t_ret ?_ | refine t_exit ?_ | refine k_seq_exit ?_ | refine k_seq_ret ?_ | refine k_blk_exit ?_ | refine k_blk_other (by decide) ?_ | refine k_blk_ret ?_ | refine k_blk ?_ | refine t_block ?_ | refine m_nil ?_ | (with_reducible intro hc; with_reducible exact Bool.noConfusion hc) | (with_reducible intro hc la ha hn1; replace hNE := And.intro hNE hn1) | (with_reducible intro hc; replace hC := And.intro hC hc))
    all_goals ((first | refine cpendE rs4 ?_ | refine cpendNE rs4 ?_); (exact fin_eq))
  have h17 := p17' a w s (by omega)
  have h20 := p20 a w s (by omega)
  have h21 := p21 s (by omega)
  rw [if_pos (by omega), if_pos (by omega)] at h21
  have h22 := p22 s (by omega)
  obtain ⟨n1, n2⟩ := openF_small a w s
  have h19 := p19 (openF a w s).1.1 (by omega) (by omega)
  generalize openF a w s = q at h17 h20 h19
  simp only [encU] at h17 h20 h19
  (refine ppure_of_T ok4 (by simp only [List.length_cons, List.length_nil]; decide) ?_; refine t_seq ?_)
  have hNE := True.intro; have hC := True.intro; have hA := True.intro; have hP := True.intro
  (replace hA := True.intro; replace hP := And.intro h11 (And.intro h17 (And.intro h20 (And.intro h21 (And.intro h22 (And.intro h19 (True.intro)))))); repeat' first | ((with_reducible apply gt_call); first | refine ce_callS ?_ | refine ce_callO ?_) | ((with_reducible apply gt_alloc); (refine ce_alloc ?_; intro la ha hn1; replace hNE := And.intro hNE hn1)) | ((with_reducible apply gt_store); refine ce_store ?_) | ((with_reducible apply gt_gcall); first | refine ce_gcallS ?_ | refine ce_gcallO ?_ | ((with_reducible apply te_gcall2); exact rfl; (focus (simp (maxDischargeDepth := 8) (disch := first | (with_reducible apply Om.mk; first | (simp (maxDischargeDepth := 8) only [go_sem, hNE, hA]; done) | (clear hP hC hNE hA; first | omega | (simp only [List.length_append, List.length_take, List.length_drop, List.length_map, List.length_replicate]; omega))) | (simp (maxDischargeDepth := 8) only [go_sem, hNE, hA]; done) | fail) only [go_sem, hNE, hA]; first | done | exact rfl)); (focus (simp (maxDischargeDepth := 8) (disch := first | (with_reducible apply Om.mk; first | (simp (maxDischargeDepth := 8) only [go_sem, hNE, hA]; done) | (clear hP hC hNE hA; first | omega | (simp only [List.length_append, List.length_take, List.length_drop, List.length_map, List.length_replicate]; omega))) | (simp (maxDischargeDepth := 8) only [go_sem, hNE, hA]; done) | fail) only [go_sem, hNE, hA]; first | done | exact rfl)); (focus (intro hG hG2; simp (maxDischargeDepth := 8) (disch := first | (with_reducible apply Om.mk; first | (simp (maxDischargeDepth := 8) only [go_sem, hNE, hA]; done) | (clear hP hC hNE hA; first | omega | (simp only [List.length_append, List.length_take, List.length_drop, List.length_map, List.length_replicate]; omega))) | (simp (maxDischargeDepth := 8) only [go_sem, hNE, hA]; done) | fail) only [go_sem, hNE, hA, hG, hG2]; first | done | exact rfl)); (focus (simp (maxDischargeDepth := 8) (disch := first | (with_reducible apply Om.mk; first | (simp (maxDischargeDepth := 8) only [go_sem, hNE, hA]; done) | (clear hP hC hNE hA; first | omega | (simp only [List.length_append, List.length_take, List.length_drop, List.length_map, List.length_replicate]; omega))) | (simp (maxDischargeDepth := 8) only [go_sem, hNE, hA]; done) | fail) only [go_sem, hNE, hA]; done)); (intro hG hG2; first | exact h11 | exact h17 | exact h20 | exact h21 | exact h22 | exact h19)) | refine ce_gno ?_ | refine ce_gskip ?_ | refine ce_gno2 ?_) | ((with_reducible apply gt_g); first | refine ce_gval ?_ | refine ce_gno ?_ | refine ce_gskip ?_ | refine ce_gval2 ?_ | refine ce_gno2 ?_) | ((with_reducible apply gt_cond); first | refine c_cond ?_ ?_ | refine c_condB ?_ ?_) | ((with_reducible apply gt_any); refine ce_val ?_) | with_reducible first | refine k_seq ?_ | refine t_seq ?_ | refine t_reg ?_ | refine t_nil ?_ | refine t_skip ?_ | refine t_ret ?_ | refine t_exit ?_ | refine k_seq_exit ?_ | refine k_seq_ret ?_ | refine k_blk_exit ?_ | refine k_blk_other (by decide) ?_ | refine k_blk_ret ?_ | refine k_blk ?_ | refine t_block ?_ | refine m_nil ?_ | (with_reducible intro hc; with_reducible exact Bool.noConfusion hc) | (with_reducible intro hc la ha hn1; replace hNE := And.intro hNE hn1) | (with_reducible intro hc; replace hC := And.intro hC hc))
  all_goals ((first | refine cpendE rs4 ?_ | refine cpendNE rs4 ?_); (exact fin_eq))
end Go.Proofs.Ythdgdngdfijfhaa
namespace Go.Proofs.Ythdgdngdfijfhaa
open Go.ChangeShapes Go.WideShapes Go.ChangeAt Go.RowKit Go.Proofs
set_option linter.unusedVariables false
set_option maxRecDepth 100000 in
theorem filesOpens_lifted (os : Os) (started : os.Started) (H : Type) (enc : TypeId × Value → H) :
    ReturnsInHanded {} Try.checked os 4 .any (Rows.filesOpensSpec.pre6 enc Try.prog Try.f4 Rows.filesOpensRow.domain false) (Rows.filesOpensSpec.post enc Try.prog Try.f4 false true false false) := by
  refine returnsInHanded_of_change_sized (C := Try.checked) ownKn started (by kernel_rfl) Try.func4
    (ChangeSpec.witness6 (enc := enc) (C := Try.checked) false ⟨#[], #[.int .i64 0, .int .i64 0, .string ⟨#[]⟩], []⟩ 8 (by kernel_rfl) (by kernel_rfl) (by kernel_rfl) (by kernel_rfl)) ?_
  intro W base args ds gs before hval0 hW hcnd hsz0 _
  have hval : ∀ (j : Nat) t v, Try.f4.params[j]? = some t → args[j]? = some v → Value.okWide Try.prog W .any base t v := hval0
  have hW' := hW
  obtain ⟨p, q, hA0, hV, rfl, hfz, hnd⟩ := hW
  have hA : DataW.TrodAll enc Try.prog W 0 (fun _ => true) true Try.f4.params.toList args.toList ds p := hA0
  rw [Try.params4] at hA hval
  obtain ⟨v0, vs0, d0, ds0, p0, q0, hargs, rfl, rfl, h0, r0⟩ := trodAll_cons hA
  obtain ⟨v1, vs1, d1, ds1, p1, q1, rfl, rfl, rfl, h1, r1⟩ := trodAll_cons r0
  obtain ⟨v2, vs2, d2, ds2, p2, q2, rfl, rfl, rfl, h2, r2⟩ := trodAll_cons r1
  obtain ⟨rfl, rfl, rfl⟩ := trodAll_nil r2
  obtain rfl : args = #[v0, v1, v2] := by cases args; simp_all
  obtain ⟨rfl, rfl⟩ := trodVars_none hV
  obtain ⟨a, ha0, w0⟩ := arg3 (hval 0 3 v0 rfl rfl) h0
  have k0 := h0
  have lt0 : ∀ x ∈ p0, x.block < W.heap.size := by obtain ⟨m, hm⟩ := k0; exact DataW.trod_lt m _ _ _ hm
  obtain ⟨w, hw0, w1⟩ := arg3 (hval 1 3 v1 rfl rfl) h1
  have k1 := h1
  have lt1 : ∀ x ∈ p1, x.block < W.heap.size := by obtain ⟨m, hm⟩ := k1; exact DataW.trod_lt m _ _ _ hm
  obtain ⟨s, hs0, w2⟩ := arg9 (hval 2 9 v2 rfl rfl) h2
  have k2 := h2
  have lt2 : ∀ x ∈ p2, x.block < W.heap.size := by obtain ⟨m, hm⟩ := k2; exact DataW.trod_lt m _ _ _ hm
  clear hA0 hval0 hsz0
  refine ((law4 a w s).law (.mk3 w0 w1 w2)).mono fun e W' ⟨he, bel⟩ => ?_
  subst he
  exact ⟨_, rfl, _, _, _, [], _, [], hW', trodAll_mk1 (shut_bool u_4 _), (trodAll_cons_mk (Below.trod laidOut (by kernel_rfl) (of_decide_eq_true (by kernel_rfl)) k0 bel lt0) (trodAll_cons_mk (Below.trod laidOut (by kernel_rfl) (of_decide_eq_true (by kernel_rfl)) k1 bel lt1) (trodAll_cons_mk (Below.trod laidOut (by kernel_rfl) (of_decide_eq_true (by kernel_rfl)) k2 bel lt2) trodAll_mk0))), rfl, bel.frame _, fun h => by cases h⟩
theorem filesOpens_holds : Rows.FilesOpensSaid :=
  OpenClaim.holds_of_wide 4 Try.f4 rfl rfl rfl rfl rfl rfl rfl ⟨rfl, rfl, rfl, rfl, rfl⟩ rfl rfl rfl rfl rfl (by kernel_rfl) Try.func4 (by kernel_rfl)
    (of_decide_eq_true (by kernel_rfl)) (by unfold Func.isWrapper; first | (rw [if_pos (by decide +kernel)]; kernel_rfl) | (rw [if_neg (by decide +kernel)]; exact ⟨rfl, rfl⟩))
    (fun os started H enc _ => filesOpens_lifted os started H enc)
#print axioms filesOpens_holds
end Go.Proofs.Ythdgdngdfijfhaa
