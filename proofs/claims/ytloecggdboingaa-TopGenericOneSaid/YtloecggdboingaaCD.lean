/- Chapter 18: calls resolved. -/
import Derived.Test.YtloecggdboingaaCC
namespace Go.Proofs.Ytloecggdboingaa
open Go.RowKit Go.Proofs
set_option linter.unusedVariables false
set_option linter.unusedSimpArgs false
attribute [local irreducible] PPure

theorem Acc.upd1 {H : Hp} {v : PV} {n : Nat} {xs : List PV} {l : Lab} {c : Option Chunk} (h : Acc H v n xs) (hl : H l = none) : Acc (upd H l c) v n xs := by
  rcases h with ⟨h1, h2⟩ | ⟨l', h1, h2⟩
  · exact .inl ⟨h1, h2⟩
  · refine .inr ⟨l', h1, ?_⟩
    have : l' ≠ l := fun e => by rw [e, hl] at h2; cases h2
    rw [upd_ne _ _ this]; exact h2
theorem Acc.upd2 {H : Hp} {v : PV} {n : Nat} {xs : List PV} {l : Lab} {c d : Option Chunk} (h : Acc H v n xs) (hl : H l = none) : Acc (upd (upd H l c) l d) v n xs := by
  rcases h with ⟨h1, h2⟩ | ⟨l', h1, h2⟩
  · exact .inl ⟨h1, h2⟩
  · refine .inr ⟨l', h1, ?_⟩
    have : l' ≠ l := fun e => by rw [e, hl] at h2; cases h2
    rw [upd_ne _ _ this, upd_ne _ _ this]; exact h2
theorem Acc.norm_tup {H : Hp} {v : PV} {n : Nat} {xs : List PV} (h : Acc H v n xs) (hc : xs.all (closedB false) = true) {rest : List PV} (hr : rest.all (closedB false) = true) :
    Go.Proofs.Ytloecggdboingaa.norm false H 8 (.tup (v :: rest)) = some (.tup (.list .any xs :: rest)) := by
  have hn : rest.mapM (Go.Proofs.Ytloecggdboingaa.norm false H 7) = some rest := norm_ok (n := 6) hr
  rw [norm8]
  rcases h with ⟨rfl, k, hk, rfl⟩ | ⟨l, rfl, hl⟩
  · simp only [closedB, closedL, hk, Bool.or_self, Bool.false_and, Bool.false_eq_true, if_false, normStep, List.mapM_cons, hn, norm7, List.mapM_nil, Option.pure_def, Option.map_some, Option.bind_eq_bind, Option.bind_some]
  · have : xs.mapM (Go.Proofs.Ytloecggdboingaa.norm false H 6) = some xs := norm_ok (n := 5) hc
    simp only [closedB, closedL, Bool.false_and, Bool.false_eq_true, if_false, normStep, List.mapM_cons, hn, norm7, hl]
    simp only [if_true, Nat.zero_add, Nat.le_refl, and_self, List.drop_zero, List.take_length, this, Option.map_some, Option.bind_eq_bind, Option.bind_some, Option.pure_def]

def matchOf (p : Prc) (c : List Act) : List Int × Int :=
  if orE [prcErr p, callErr c] = 0 then ((matchF p c).getD [], broken [((matchF p c).isSome, 12)]) else ([], orE [prcErr p, callErr c])
def encLE (r : List Int × Int) : PV := .tup [.list .any (r.1.map encI), .int .i64 r.2]
theorem p56' (p : Prc) (c : List Act) (hd : p.ds.length ≤ 1000) (hc : c.length ≤ 1000) : PPure Try.prog 56 [encP p, .list .any (c.map encA)] (.tup [.list .any (((matchF p c).getD []).map encI), .bool (matchF p c).isSome]) := p56 p c hd hc
theorem p38' (p : Prc) (c : List Act) (hd : p.ds.length ≤ 1000) (hc : c.length ≤ 1000) : PPure Try.prog 38 [encP p, .list .any (c.map encA)] (.tup [.list .any (((matchF p c).getD []).map encI), .bool (matchF p c).isSome]) := p38 p c hd hc
theorem p36 (p : Prc) (c : List Act) (hd : p.ds.length ≤ 1000) (hcc : c.length ≤ 1000) : PPure Try.prog 36 [encP p, .list .any (c.map encA)] (encLE (matchOf p c)) := by
  simp only [encP]
  (refine ppure_of_T ok36 (by simp only [List.length_cons, List.length_nil]; decide) ?_; refine t_seq ?_)
  (have hNE := True.intro; have hC := True.intro; repeat' first
      | with_reducible refine k_seq ?_
      | with_reducible refine t_seq ?_
      | with_reducible refine t_reg ?_
      | with_reducible refine t_nil ?_
      | with_reducible refine t_skip ?_
      | with_reducible refine t_ret ?_
      | with_reducible refine k_seq_ret ?_
      | ((with_reducible apply te_val); exact rfl; (intro _ _ _ h; cases h); (focus (simp only [go_sem, hNE, encP]; first | done | exact rfl)))
      | ((with_reducible apply te_callS); (focus (simp only [go_sem, hNE, encP]; first | done | exact rfl)); (focus (simp only [go_sem, hNE, encP]; first | done | exact rfl)); (focus (simp only [go_sem, hNE, encP]; first | done | exact rfl)); (first | exact p67 p hd | exact p55 c hcc | exact p53_2 _ _ | exact p57_1 _ _ | exact p56' p c hd hcc))
      | ((with_reducible apply te_box); (focus (simp only [go_sem, hNE, encP]; first | done | exact rfl)); exact rfl; (focus (simp only [go_sem, hNE, encP]; first | done | exact rfl)))
      | ((with_reducible apply t_cond); (focus (simp only [go_sem, hNE, encP]; first | done | exact rfl)))
      | (with_reducible intro hc; have hC := And.intro hC hc))
  · have e : orE [prcErr p, callErr c] ≠ 0 := by simpa using hC
    (first | apply pend rs36 | apply pendN rs36); (focus (simp only [go_sem, encLE, matchOf, e]; first | done | exact rfl)); (focus (simp only [go_sem, encLE, matchOf, e]; first | done | exact rfl))
  · have e : orE [prcErr p, callErr c] = 0 := by simpa using hC
    (first | apply pend rs36 | apply pendN rs36); (focus (simp only [go_sem, encLE, matchOf, e, clIs, nmI]; first | done | exact rfl)); (focus (simp only [go_sem, encLE, matchOf, e, clIs, nmI]; first | done | exact rfl))
def isComp (a b : Dum) : Bool × Int := if orE [dumErr a, dumErr b] = 0 then (compB a b, 0) else (false, orE [dumErr a, dumErr b])
theorem p33 (a b : Dum) : PPure Try.prog 33 [encD a, encD b] (.tup [.bool (isComp a b).1, .int .i64 (isComp a b).2]) := by
  simp only [encD]
  (refine ppure_of_T ok33 (by simp only [List.length_cons, List.length_nil]; decide) ?_; refine t_seq ?_)
  (have hNE := True.intro; have hC := True.intro; repeat' first
      | ((with_reducible apply te_drwE); (focus (simp only [effFl, List.map_cons, List.map_nil]; exact rfl)); (focus decide +kernel))
      | with_reducible refine k_seq ?_
      | with_reducible refine t_seq ?_
      | with_reducible refine t_reg ?_
      | with_reducible refine t_nil ?_
      | with_reducible refine t_skip ?_
      | with_reducible refine t_ret ?_
      | with_reducible refine k_seq_ret ?_
      | with_reducible refine m_nil ?_
      | ((with_reducible apply te_val); exact rfl; (intro _ _ _ h; cases h); (focus (simp only [go_sem, hNE, encD]; first | done | exact rfl)))
      | ((with_reducible apply te_callS); (focus (simp only [go_sem, hNE, encD]; first | done | exact rfl)); (focus (simp only [go_sem, hNE, encD]; first | done | exact rfl)); (focus (simp only [go_sem, hNE, encD]; first | done | exact rfl)); (first | exact p77 a | exact p77 b | exact p53_2 _ _ | exact p78 a b))
      | ((with_reducible apply me_val); exact rfl; (intro _ _ _ h; cases h); (focus (simp only [go_sem, hNE, encD]; first | done | exact rfl)))
      | ((with_reducible apply me_callS); (focus (simp only [go_sem, hNE, encD]; first | done | exact rfl)); (focus (simp only [go_sem, hNE, encD]; first | done | exact rfl)); (focus (simp only [go_sem, hNE, encD]; first | done | exact rfl)); (first | exact p77 a | exact p77 b | exact p53_2 _ _ | exact p78 a b))
      | ((with_reducible apply te_box); (focus (simp only [go_sem, hNE, encD]; first | done | exact rfl)); exact rfl; (focus (simp only [go_sem, hNE, encD]; first | done | exact rfl)))
      | ((with_reducible apply t_cond); (focus (simp only [go_sem, hNE, encD]; first | done | exact rfl)))
      | (with_reducible intro hc; have hC := And.intro hC hc))
  · have e : orE [dumErr a, dumErr b] ≠ 0 := by simpa using hC
    (first | apply pend rs33 | apply pendN rs33); (focus (simp only [go_sem, isComp, e]; first | done | exact rfl)); (focus (simp only [go_sem, isComp, e]; first | done | exact rfl))
  · have e : orE [dumErr a, dumErr b] = 0 := by simpa using hC
    (first | apply pend rs33 | apply pendN rs33); (focus (simp only [go_sem, isComp, e]; first | done | exact rfl)); (focus (simp only [go_sem, isComp, e]; first | done | exact rfl))

def candF (c : List Act) : List Prc → Nat → List Int
  | [], _ => []
  | p :: r, i => if (matchF p c).isSome = true then (i : Int) :: candF c r (i + 1) else candF c r (i + 1)
def candidates (l : List Prc) (c : List Act) : List Int × Int := if orE [itfErr l, callErr c] = 0 then (candF c l 0, 0) else ([], orE [itfErr l, callErr c])
theorem candF_len (c : List Act) : ∀ (l : List Prc) (i : Nat), (candF c l i).length ≤ l.length
  | [], _ => Nat.le_refl _
  | p :: r, i => by
    have := candF_len c r (i + 1)
    unfold candF
    split <;> simp <;> omega
set_option maxHeartbeats 1000000 in
theorem p15 (l : List Prc) (c : List Act) (h : Small l) (hc : c.length ≤ 1000) : PPure Try.prog 15 [.list .any (l.map encP), .list .any (c.map encA)] (encLE (candidates l c)) := by
  have hcl := hc
  have hl := h.1
  (refine ppure_of_T ok15 (by simp only [List.length_cons, List.length_nil]; decide) ?_; refine t_seq ?_)
  (have hNE := True.intro; have hC := True.intro; repeat' first
      | with_reducible refine k_seq ?_
      | with_reducible refine t_seq ?_
      | with_reducible refine t_reg ?_
      | with_reducible refine t_nil ?_
      | with_reducible refine t_skip ?_
      | with_reducible refine t_ret ?_
      | with_reducible refine k_seq_ret ?_
      | with_reducible refine t_block ?_
      | ((with_reducible apply te_val); exact rfl; (intro _ _ _ h; cases h); (focus (simp only [go_sem, hNE, encP]; first | done | exact rfl)))
      | ((with_reducible apply te_callS); (focus (simp only [go_sem, hNE, encP]; first | done | exact rfl)); (focus (simp only [go_sem, hNE, encP]; first | done | exact rfl)); (focus (simp only [go_sem, hNE, encP]; first | done | exact rfl)); (first | exact p54 l h | exact p55 c hc | exact p53_2 _ _))
      | ((with_reducible apply t_cond); (focus (simp only [go_sem, hNE, encP]; first | done | exact rfl)))
      | (with_reducible intro hc; have hC := And.intro hC hc))
  · have e : orE [itfErr l, callErr c] ≠ 0 := by simpa using hC
    (first | apply pend rs15 | apply pendN rs15); (focus (simp only [go_sem, encLE, candidates, e]; first | done | exact rfl)); (focus (simp only [go_sem, encLE, candidates, e]; first | done | exact rfl))
  · have e : orE [itfErr l, callErr c] = 0 := by simpa using hC
    refine t_loopE (fun (k0 : Nat) (E0 : Nat → PV) (H0 : Hp) => ∃ (i : Nat) (acc : List Int), i + k0 = l.length ∧ acc ++ candF c (l.drop i) i = candF c l 0 ∧ acc.length ≤ i ∧ Acc H0 (E0 7) 1 (acc.map encI) ∧ E0 23 = .int .i64 i) (l.length) ⟨0, [], (by first | omega | rfl | assumption | (simp only [go_sem]; first | done | rfl | assumption | omega)), ?_, (by first | omega | rfl | assumption | (simp only [go_sem]; first | done | rfl | assumption | omega)), ?_, (by simp only [go_sem]; first | done | rfl)⟩ ?_
    · rfl
    · exact Acc.nil _ _
    rintro k0 E0 H0 hfr0 ⟨i, acc, hk, hr, hal, hacc, h0_23⟩
    have e0_1 := hfr0 1 rfl; have e0_4 := hfr0 4 rfl; have e0_5 := hfr0 5 rfl; have e0_21 := hfr0 21 rfl; have e0_22 := hfr0 22 rfl
    simp only [go_sem] at e0_1 e0_4 e0_5 e0_21 e0_22
    clear hfr0
    by_cases hi : i < l.length
    · obtain ⟨x, hx, hdr⟩ := at_list hi
      have hlt := lt_int hi
      have hw := wrap_next hi hl
      have hle := Int.le_of_lt hlt
      rw [hdr, candF] at hr
      (have hA := And.intro e0_1 (And.intro e0_4 (And.intro e0_5 (And.intro e0_21 (And.intro e0_22 (h0_23))))); have hNE := True.intro; have hC := True.intro; repeat' first
          | with_reducible refine k_seq ?_
          | with_reducible refine t_seq ?_
          | with_reducible refine t_reg ?_
          | with_reducible refine t_nil ?_
          | with_reducible refine t_skip ?_
          | with_reducible refine k_blk ?_
          | with_reducible refine t_block ?_
          | ((with_reducible apply te_val); exact rfl; (intro _ _ _ h; cases h); (focus (simp only [go_sem, hNE, hA, hlt, hle, hx, hw, encP]; first | done | exact rfl)))
          | ((with_reducible apply te_callS); (focus (simp only [go_sem, hNE, hA, hlt, hle, hx, hw, encP]; first | done | exact rfl)); (focus (simp only [go_sem, hNE, hA, hlt, hle, hx, hw, encP]; first | done | exact rfl)); (focus (simp only [go_sem, hNE, hA, hlt, hle, hx, hw, encP]; first | done | exact rfl)); (first | exact p56' x c (h.at hx) hcl))
          | ((with_reducible apply te_alloc); (focus (simp only [go_sem, hNE, hA, hlt, hle, hx, hw, encP]; first | done | exact rfl)); exact rfl; exact rfl; (intro la ha hn1; have hNE := And.intro hNE hn1))
          | ((with_reducible apply te_store); (focus (simp only [go_sem, hNE, hA, hlt, hle, hx, hw, encP]; first | done | exact rfl)); (focus (simp only [go_sem, hNE, hA, hlt, hle, hx, hw, encP]; first | done | exact rfl)); (focus (simp only [go_sem, hNE, hA, hlt, hle, hx, hw, encP]; first | done | exact rfl)); (focus (simp only [go_sem, hNE, hA, hlt, hle, hx, hw, encP]; first | done | exact rfl)); (focus (simp only [go_sem, hNE, hA, hlt, hle, hx, hw, encP]; first | done | exact rfl)); (focus (simp only [go_sem, hNE, hA, hlt, hle, hx, hw, encP]; first | done | exact rfl)))
          | ((with_reducible apply te_appendG); (with_reducible exact app_27; with_reducible exact c_3); (focus (simp only [go_sem, hNE, hA, hlt, hle, hx, hw, encP]; first | done | exact rfl)); (first | exact hacc | exact hacc.upd2 (by assumption) | exact hacc.upd1 (by assumption) | (focus (refine Acc.sub hacc (fun l c hl => ?_); simp only [go_sem, hNE, hA, hlt, hle, hx, hw, encP, hl]))); (focus (simp only [go_sem, hNE, hA, hlt, hle, hx, hw, encP]; first | done | exact rfl)); exact rfl; (focus (simp only [go_sem, hNE, hA, hlt, hle, hx, hw, encP]; done)); (focus (simp only [go_sem, hNE, hA, hlt, hle, hx, hw, encP, roomB, List.length_take, List.length_append]; first | done | omega)); (intro u Hn hacc))
          | ((with_reducible apply t_cond); (focus (simp only [go_sem, hNE, hA, hlt, hle, hx, hw, encP]; first | done | exact rfl)))
          | (with_reducible intro hc; with_reducible exact Bool.noConfusion hc)
          | (with_reducible intro hc; have hC := And.intro hC hc))
      · refine k_invE (k0 - 1) (by omega) ⟨i + 1, acc ++ [(i : Int)], (by omega), ?_, ?_, ?_, (by simp only [go_sem, e0_1, e0_4, e0_5, e0_21, e0_22, h0_23, hw]; first | done | rfl)⟩
        · simp only [hC, if_true] at hr
          rw [List.append_assoc]; exact hr
        · rw [List.length_append, List.length_singleton]; omega
        · rw [List.map_append]; exact hacc
      · refine k_invE (k0 - 1) (by omega) ⟨i + 1, acc, (by omega), ?_, ?_, ?_, (by simp only [go_sem, e0_1, e0_4, e0_5, e0_21, e0_22, h0_23, hw]; first | done | rfl)⟩
        · simp only [hC, Bool.false_eq_true, if_false] at hr; exact hr
        · omega
        · exact hacc.upd2 ha
    · have hlt := nlt_int hi
      rw [at_end hi, candF, List.append_nil] at hr
      (have hA := And.intro e0_1 (And.intro e0_4 (And.intro e0_5 (And.intro e0_21 (And.intro e0_22 (h0_23))))); have hNE := True.intro; have hC := True.intro; repeat' first
          | with_reducible refine k_seq ?_
          | with_reducible refine t_seq ?_
          | with_reducible refine t_reg ?_
          | with_reducible refine t_nil ?_
          | with_reducible refine t_ret ?_
          | with_reducible refine t_exit ?_
          | with_reducible refine k_seq_exit ?_
          | with_reducible refine k_blk_exit ?_
          | with_reducible refine k_invE_exit ?_
          | ((with_reducible apply te_val); exact rfl; (intro _ _ _ h; cases h); (focus (simp only [go_sem, hNE, hA, hlt]; first | done | exact rfl)))
          | ((with_reducible apply t_cond); (focus (simp only [go_sem, hNE, hA, hlt]; first | done | exact rfl)))
          | (with_reducible intro hc; with_reducible exact Bool.noConfusion hc)
          | (with_reducible intro hc; have hC := And.intro hC hc))
      apply pend rs15; (focus (simp only [go_sem]; rfl))
      rw [encLE, candidates, if_pos e, ← hr]
      exact hacc.norm_tup (all_clI _) rfl
set_option maxHeartbeats 1000000 in
theorem p21 (l : List Prc) (c : List Act) (h : Small l) (hc : c.length ≤ 1000) : PPure Try.prog 21 [.list .any (l.map encP), .list .any (c.map encA)] (.list .any ((candF c l 0).map encI)) := by
  have hcl := hc
  have hl := h.1
  (refine ppure_of_T ok21 (by simp only [List.length_cons, List.length_nil]; decide) ?_; refine t_seq ?_)
  (have hNE := True.intro; have hC := True.intro; repeat' first
      | with_reducible refine k_seq ?_
      | with_reducible refine t_seq ?_
      | with_reducible refine t_reg ?_
      | with_reducible refine t_nil ?_
      | with_reducible refine t_block ?_
      | ((with_reducible apply te_val); exact rfl; (intro _ _ _ h; cases h); (focus (simp only [go_sem, hNE, encP]; first | done | exact rfl))))
  refine t_loopE (fun (k0 : Nat) (E0 : Nat → PV) (H0 : Hp) => ∃ (i : Nat) (acc : List Int), i + k0 = l.length ∧ acc ++ candF c (l.drop i) i = candF c l 0 ∧ acc.length ≤ i ∧ Acc H0 (E0 5) 1 (acc.map encI) ∧ E0 6 = .int .i64 i) (l.length) ⟨0, [], (by first | omega | rfl | assumption | (simp only [go_sem]; first | done | rfl | assumption | omega)), ?_, (by first | omega | rfl | assumption | (simp only [go_sem]; first | done | rfl | assumption | omega)), ?_, (by simp only [go_sem]; first | done | rfl)⟩ ?_
  · rfl
  · exact Acc.nil _ _
  rintro k0 E0 H0 hfr0 ⟨i, acc, hk, hr, hal, hacc, h0_6⟩
  have e0_0 := hfr0 0 rfl; have e0_1 := hfr0 1 rfl; have e0_4 := hfr0 4 rfl
  simp only [go_sem] at e0_0 e0_1 e0_4
  clear hfr0
  by_cases hi : i < l.length
  · obtain ⟨x, hx, hdr⟩ := at_list hi
    have hlt := lt_int hi
    have hw := wrap_next hi hl
    have hle := Int.le_of_lt hlt
    rw [hdr, candF] at hr
    (have hA := And.intro e0_0 (And.intro e0_1 (And.intro e0_4 (h0_6))); have hNE := True.intro; have hC := True.intro; repeat' first
        | with_reducible refine k_seq ?_
        | with_reducible refine t_seq ?_
        | with_reducible refine t_reg ?_
        | with_reducible refine t_nil ?_
        | with_reducible refine t_skip ?_
        | with_reducible refine k_blk ?_
        | with_reducible refine t_block ?_
        | ((with_reducible apply te_val); exact rfl; (intro _ _ _ h; cases h); (focus (simp only [go_sem, hNE, hA, hlt, hle, hx, hw, encP]; first | done | exact rfl)))
        | ((with_reducible apply te_callS); (focus (simp only [go_sem, hNE, hA, hlt, hle, hx, hw, encP]; first | done | exact rfl)); (focus (simp only [go_sem, hNE, hA, hlt, hle, hx, hw, encP]; first | done | exact rfl)); (focus (simp only [go_sem, hNE, hA, hlt, hle, hx, hw, encP]; first | done | exact rfl)); (first | exact p38' x c (h.at hx) hcl))
        | ((with_reducible apply te_appendG); (with_reducible exact app_27; with_reducible exact c_3); (focus (simp only [go_sem, hNE, hA, hlt, hle, hx, hw, encP]; first | done | exact rfl)); (first | exact hacc | exact hacc.upd2 (by assumption) | exact hacc.upd1 (by assumption) | (focus (refine Acc.sub hacc (fun l c hl => ?_); simp only [go_sem, hNE, hA, hlt, hle, hx, hw, encP, hl]))); (focus (simp only [go_sem, hNE, hA, hlt, hle, hx, hw, encP]; first | done | exact rfl)); exact rfl; (focus (simp only [go_sem, hNE, hA, hlt, hle, hx, hw, encP]; done)); (focus (simp only [go_sem, hNE, hA, hlt, hle, hx, hw, encP, roomB, List.length_take, List.length_append]; first | done | omega)); (intro u Hn hacc))
        | ((with_reducible apply t_cond); (focus (simp only [go_sem, hNE, hA, hlt, hle, hx, hw, encP]; first | done | exact rfl)))
        | (with_reducible intro hc; with_reducible exact Bool.noConfusion hc)
        | (with_reducible intro hc; have hC := And.intro hC hc))
    · refine k_invE (k0 - 1) (by omega) ⟨i + 1, acc ++ [(i : Int)], (by omega), ?_, ?_, ?_, (by simp only [go_sem, e0_0, e0_1, e0_4, h0_6, hw]; first | done | rfl)⟩
      · simp only [hC, if_true] at hr
        rw [List.append_assoc]; exact hr
      · rw [List.length_append, List.length_singleton]; omega
      · rw [List.map_append]; exact hacc
    · refine k_invE (k0 - 1) (by omega) ⟨i + 1, acc, (by omega), ?_, ?_, ?_, (by simp only [go_sem, e0_0, e0_1, e0_4, h0_6, hw]; first | done | rfl)⟩
      · simp only [hC, Bool.false_eq_true, if_false] at hr; exact hr
      · omega
      · exact hacc
  · have hlt := nlt_int hi
    rw [at_end hi, candF, List.append_nil] at hr
    (have hA := And.intro e0_0 (And.intro e0_1 (And.intro e0_4 (h0_6))); have hNE := True.intro; have hC := True.intro; repeat' first
        | with_reducible refine k_seq ?_
        | with_reducible refine t_seq ?_
        | with_reducible refine t_reg ?_
        | with_reducible refine t_nil ?_
        | with_reducible refine t_ret ?_
        | with_reducible refine t_exit ?_
        | with_reducible refine k_seq_exit ?_
        | with_reducible refine k_blk_exit ?_
        | with_reducible refine k_invE_exit ?_
        | ((with_reducible apply te_val); exact rfl; (intro _ _ _ h; cases h); (focus (simp only [go_sem, hNE, hA, hlt]; first | done | exact rfl)))
        | ((with_reducible apply t_cond); (focus (simp only [go_sem, hNE, hA, hlt]; first | done | exact rfl)))
        | (with_reducible intro hc; with_reducible exact Bool.noConfusion hc)
        | (with_reducible intro hc; have hC := And.intro hC hc))
    apply pend rs21; (focus (simp only [go_sem]; rfl))
    rw [← hr]
    exact hacc.norm (all_clI _)
def resErr (x : List Int × Int) : Int := orE [x.2, broken [(decide (0 < (x.1.length : Int)), 12), (decide ((x.1.length : Int) ≤ 1), 30)]]
def resolved (l : List Prc) (c : List Act) : Int × Int := if resErr (candidates l c) = 0 then ((candidates l c).1.headD 0, 0) else (0, resErr (candidates l c))
theorem p18 (l : List Prc) (c : List Act) (h : Small l) (hc : c.length ≤ 1000) : PPure Try.prog 18 [.list .any (l.map encP), .list .any (c.map encA)] (.tup [.int .i64 (resolved l c).1, .int .i64 (resolved l c).2]) := by
  have hq := p15 l c h hc
  rw [encLE] at hq
  have hlen : (candidates l c).1.length ≤ 1000 := by
    have := candF_len c l 0
    have := h.1
    unfold candidates; split
    · simp only; omega
    · simp
  (refine ppure_of_T ok18 (by simp only [List.length_cons, List.length_nil]; decide) ?_; refine t_seq ?_)
  obtain ⟨⟨all, er⟩, hca⟩ : ∃ r, candidates l c = r := ⟨_, rfl⟩
  rw [hca] at hq hlen
  simp only at hq hlen
  cases all with
  | nil =>
    have hne : (orE [er, broken [(false, 12), (true, 30)]] = 0) = False := by
      simp only [orE, broken, eq_iff_iff, iff_false, Bool.false_eq_true, if_false]
      split <;> simp [*]
    have e : resErr (candidates l c) ≠ 0 := by
      rw [hca]; exact fun h => hne.mp h
    have e2 : resErr (candidates l c) = orE [er, broken [(false, 12), (true, 30)]] := by rw [hca]; rfl
    (have hNE := True.intro; have hC := True.intro; repeat' first
        | with_reducible refine k_seq ?_
        | with_reducible refine t_seq ?_
        | with_reducible refine t_reg ?_
        | with_reducible refine t_nil ?_
        | with_reducible refine t_ret ?_
        | with_reducible refine k_seq_ret ?_
        | ((with_reducible apply te_val); exact rfl; (intro _ _ _ h; cases h); (focus (simp only [go_sem, hNE, cast0, Int.lt_irrefl, hne]; first | done | exact rfl)))
        | ((with_reducible apply te_callS); (focus (simp only [go_sem, hNE, cast0, Int.lt_irrefl, hne]; first | done | exact rfl)); (focus (simp only [go_sem, hNE, cast0, Int.lt_irrefl, hne]; first | done | exact rfl)); (focus (simp only [go_sem, hNE, cast0, Int.lt_irrefl, hne]; first | done | exact rfl)); (first | exact hq | exact p53_2 _ _ | exact p57_2 _ _ _ _))
        | ((with_reducible apply t_cond); (focus (simp only [go_sem, hNE, cast0, Int.lt_irrefl, hne]; first | done | exact rfl)))
        | (with_reducible intro hc; with_reducible exact Bool.noConfusion hc)
        | (with_reducible intro hc; have hC := And.intro hC hc))
    rw [resolved, if_neg e, e2]
    (first | apply pend rs18 | apply pendN rs18); (focus (simp only [go_sem]; first | done | exact rfl)); (focus (simp only [go_sem]; first | done | exact rfl))
  | cons v all =>
    have h0 : ((0 : Int) < ((all.length + 1 : Nat) : Int)) = True := eq_true (by omega)
    have h00 : ((0 : Int) ≤ ((all.length + 1 : Nat) : Int)) = True := eq_true (by omega)
    have e2 : resErr (candidates l c) = orE [er, broken [(true, 12), (decide (((all.length + 1 : Nat) : Int) ≤ 1), 30)]] := by rw [hca]; simp only [resErr, List.length_cons, h0, decide_true]
    (have hNE := True.intro; have hC := True.intro; repeat' first
        | with_reducible refine k_seq ?_
        | with_reducible refine t_seq ?_
        | with_reducible refine t_reg ?_
        | with_reducible refine t_nil ?_
        | with_reducible refine t_skip ?_
        | with_reducible refine t_ret ?_
        | with_reducible refine k_seq_ret ?_
        | ((with_reducible apply te_val); exact rfl; (intro _ _ _ h; cases h); (focus (simp only [go_sem, hNE, h0, h00, encI]; first | done | exact rfl)))
        | ((with_reducible apply te_callS); (focus (simp only [go_sem, hNE, h0, h00, encI]; first | done | exact rfl)); (focus (simp only [go_sem, hNE, h0, h00, encI]; first | done | exact rfl)); (focus (simp only [go_sem, hNE, h0, h00, encI]; first | done | exact rfl)); (first | exact hq | exact p53_2 _ _ | exact p57_2 _ _ _ _))
        | ((with_reducible apply t_cond); (focus (simp only [go_sem, hNE, h0, h00, encI]; first | done | exact rfl)))
        | (with_reducible intro hc; have hC := And.intro hC hc))
    · have e : resErr (candidates l c) ≠ 0 := by rw [e2]; simpa using hC
      rw [resolved, if_neg e, e2]
      (first | apply pend rs18 | apply pendN rs18); (focus (simp only [go_sem]; first | done | exact rfl)); (focus (simp only [go_sem]; first | done | exact rfl))
    · have e : resErr (candidates l c) = 0 := by rw [e2]; simpa using hC
      rw [resolved, if_pos e, hca]
      (first | apply pend rs18 | apply pendN rs18); (focus (simp only [go_sem, List.headD_cons]; first | done | exact rfl)); (focus (simp only [go_sem, List.headD_cons]; first | done | exact rfl))
end Go.Proofs.Ytloecggdboingaa
namespace Go.Proofs.Ytloecggdboingaa
open Go.RowKit Go.Proofs
set_option linter.unusedVariables false
set_option linter.unusedSimpArgs false
attribute [local irreducible] PPure

def countF (g : Dum → Bool) : List Dum → Int → Int
  | [], n => n
  | d :: r, n => if g d = true then countF g r (n + 1) else countF g r n
theorem p100 (ds : List Dum) (f : Nat) (caps : List PV) (g : Dum → Bool) (hl : ds.length ≤ 1000) (hcap : capsOK caps) (hg : ∀ d, PPure Try.prog f (encD d :: caps) (.bool (g d))) :
    PPure Try.prog 100 [.list .any (ds.map encD), .fn f caps] (.int .i64 (countF g ds 0)) := by
  obtain ⟨hcl, hnc⟩ := hcap
  (refine ppure_of_T ok100 (by simp only [List.length_cons, List.length_nil]; decide) ?_; refine t_seq ?_)
  (have hNE := True.intro; have hC := True.intro; repeat' first
      | with_reducible refine k_seq ?_
      | with_reducible refine t_seq ?_
      | with_reducible refine t_reg ?_
      | with_reducible refine t_nil ?_
      | with_reducible refine t_block ?_
      | ((with_reducible apply te_val); exact rfl; (intro _ _ _ h; cases h); (focus (simp only [go_sem, hNE, hcl, hnc]; first | done | exact rfl))))
  refine t_loopE (fun (k0 : Nat) (E0 : Nat → PV) (H0 : Hp) => ∃ (i : Nat) (n : Nat), i + k0 = ds.length ∧ countF g (ds.drop i) (n : Int) = countF g ds 0 ∧ n ≤ i ∧ E0 5 = .int .i64 (n : Int) ∧ E0 10 = .int .i64 i) (ds.length) ⟨0, 0, (by first | omega | rfl | assumption | (simp only [go_sem, hcl, hnc, cast0]; first | done | rfl | assumption | omega)), (by first | omega | rfl | assumption | (simp only [go_sem, hcl, hnc, cast0]; first | done | rfl | assumption | omega)), (by first | omega | rfl | assumption | (simp only [go_sem, hcl, hnc, cast0]; first | done | rfl | assumption | omega)), (by simp only [go_sem, hcl, hnc, cast0]; first | done | rfl), (by simp only [go_sem, hcl, hnc, cast0]; first | done | rfl)⟩ ?_
  rintro k0 E0 H0 hfr0 ⟨i, n, hk, hr, hn, h0_5, h0_10⟩
  have e0_1 := hfr0 1 rfl; have e0_4 := hfr0 4 rfl; have e0_8 := hfr0 8 rfl; have e0_9 := hfr0 9 rfl
  simp only [go_sem, hcl, hnc, cast0] at e0_1 e0_4 e0_8 e0_9
  clear hfr0
  by_cases hi : i < ds.length
  · obtain ⟨x, hx, hdr⟩ := at_list hi
    have hlt := lt_int hi
    have hw := wrap_next hi hl
    have hw2 : IntKind.i64.wrap ((n : Int) + 1) = ((n + 1 : Nat) : Int) := by rw [IntKind.wrap_i64]; omega
    have hle := Int.le_of_lt hlt
    rw [hdr, countF] at hr
    (have hA := And.intro e0_1 (And.intro e0_4 (And.intro e0_8 (And.intro e0_9 (And.intro h0_5 (h0_10))))); have hNE := True.intro; have hC := True.intro; repeat' first
        | with_reducible refine k_seq ?_
        | with_reducible refine t_seq ?_
        | with_reducible refine t_reg ?_
        | with_reducible refine t_nil ?_
        | with_reducible refine t_skip ?_
        | with_reducible refine k_blk ?_
        | with_reducible refine t_block ?_
        | ((with_reducible apply te_val); exact rfl; (intro _ _ _ h; cases h); (focus (simp only [go_sem, hNE, hA, hlt, hle, hx, hw, encD, hcl, hnc]; first | done | exact rfl)))
        | ((with_reducible apply te_callS); (focus (simp only [go_sem, hNE, hA, hlt, hle, hx, hw, encD, hcl, hnc]; first | done | exact rfl)); (focus (simp only [go_sem, hNE, hA, hlt, hle, hx, hw, encD, hcl, hnc]; first | done | exact rfl)); (focus (simp only [go_sem, hNE, hA, hlt, hle, hx, hw, encD, hcl, hnc]; first | done | exact rfl)); (first | exact hg x))
        | ((with_reducible apply te_alloc); (focus (simp only [go_sem, hNE, hA, hlt, hle, hx, hw, encD, hcl, hnc]; first | done | exact rfl)); exact rfl; exact rfl; (intro la ha hn1; have hNE := And.intro hNE hn1))
        | ((with_reducible apply te_store); (focus (simp only [go_sem, hNE, hA, hlt, hle, hx, hw, encD, hcl, hnc]; first | done | exact rfl)); (focus (simp only [go_sem, hNE, hA, hlt, hle, hx, hw, encD, hcl, hnc]; first | done | exact rfl)); (focus (simp only [go_sem, hNE, hA, hlt, hle, hx, hw, encD, hcl, hnc]; first | done | exact rfl)); (focus (simp only [go_sem, hNE, hA, hlt, hle, hx, hw, encD, hcl, hnc]; first | done | exact rfl)); (focus (simp only [go_sem, hNE, hA, hlt, hle, hx, hw, encD, hcl, hnc]; first | done | exact rfl)); (focus (simp only [go_sem, hNE, hA, hlt, hle, hx, hw, encD, hcl, hnc]; first | done | exact rfl)))
        | ((with_reducible apply t_cond); (focus (simp only [go_sem, hNE, hA, hlt, hle, hx, hw, encD, hcl, hnc]; first | done | exact rfl)))
        | (with_reducible intro hc; with_reducible exact Bool.noConfusion hc)
        | (with_reducible intro hc; have hC := And.intro hC hc))
    · refine k_invE (k0 - 1) (by omega) ⟨i + 1, n + 1, (by omega), ?_, ?_, (by simp only [go_sem, e0_1, e0_4, e0_8, e0_9, h0_5, h0_10, hw, hw2]; first | done | rfl), (by simp only [go_sem, e0_1, e0_4, e0_8, e0_9, h0_5, h0_10, hw, hw2]; first | done | rfl)⟩
      · simp only [hC, if_true] at hr
        exact hr
      · omega
    · refine k_invE (k0 - 1) (by omega) ⟨i + 1, n, (by omega), ?_, ?_, (by simp only [go_sem, e0_1, e0_4, e0_8, e0_9, h0_5, h0_10, hw]; first | done | rfl), (by simp only [go_sem, e0_1, e0_4, e0_8, e0_9, h0_5, h0_10, hw]; first | done | rfl)⟩
      · simp only [hC, Bool.false_eq_true, if_false] at hr; exact hr
      · omega
  · have hlt := nlt_int hi
    rw [at_end hi, countF] at hr
    (have hA := And.intro e0_1 (And.intro e0_4 (And.intro e0_8 (And.intro e0_9 (And.intro h0_5 (h0_10))))); have hNE := True.intro; have hC := True.intro; repeat' first
        | with_reducible refine k_seq ?_
        | with_reducible refine t_seq ?_
        | with_reducible refine t_reg ?_
        | with_reducible refine t_nil ?_
        | with_reducible refine t_ret ?_
        | with_reducible refine t_exit ?_
        | with_reducible refine k_seq_exit ?_
        | with_reducible refine k_blk_exit ?_
        | with_reducible refine k_invE_exit ?_
        | ((with_reducible apply te_val); exact rfl; (intro _ _ _ h; cases h); (focus (simp only [go_sem, hNE, hA, hlt]; first | done | exact rfl)))
        | ((with_reducible apply t_cond); (focus (simp only [go_sem, hNE, hA, hlt]; first | done | exact rfl)))
        | (with_reducible intro hc; with_reducible exact Bool.noConfusion hc)
        | (with_reducible intro hc; have hC := And.intro hC hc))
    (first | apply pend rs100 | apply pendN rs100); (focus (simp only [go_sem, e0_1, e0_4, e0_8, e0_9, h0_5, h0_10, hr]; first | done | exact rfl)); (focus (simp only [go_sem, e0_1, e0_4, e0_8, e0_9, h0_5, h0_10, hr]; first | done | exact rfl))
theorem feq (a b : Feat) : (decide (a.t = b.t) && (decide (a.k = b.k) && decide (a.r = b.r))) = decide (a = b) := by
  cases a; cases b; simp [Bool.eq_iff_iff]
def g1 (first x : Dum) : Bool := !x.opt && !x.elem && decide (x.f = first.f)
def g2 (first x : Dum) : Bool := accB x first.f
def g3 (first x : Dum) : Bool := !x.opt && kindB x.f first.f
def g4 (first x : Dum) : Bool := kindB x.f first.f
def capD (d : Dum) : List PV := [.cptr [.str d.name, .int .i64 d.f.t, .int .i64 d.f.k, .int .i64 d.f.r, .bool d.opt, .bool d.elem]]
theorem p101 (x first : Dum) : PPure Try.prog 101 (encD x :: capD first) (.bool (g1 first x)) := by
  simp only [encD, capD]
  (refine ppure_of_T ok101 (by simp only [List.length_cons, List.length_nil]; decide) ?_; refine t_seq ?_)
  (have hNE := True.intro; have hC := True.intro; repeat' first
      | with_reducible refine k_seq ?_
      | with_reducible refine t_seq ?_
      | with_reducible refine t_reg ?_
      | with_reducible refine t_nil ?_
      | with_reducible refine t_ret ?_
      | ((with_reducible apply te_val); exact rfl; (intro _ _ _ h; cases h); (focus (simp only [go_sem, hNE, e_58]; first | done | exact rfl)))
      | ((with_reducible apply te_gval); exact rfl; (focus (simp only [go_sem, hNE, e_58]; first | done | exact rfl)); exact rfl; (intro _ _ _ h; cases h); (focus (intro hG; simp only [go_sem, hNE, e_58, hG]; first | done | exact rfl)))
      | ((with_reducible apply te_box); (focus (simp only [go_sem, hNE, e_58]; first | done | exact rfl)); exact rfl; (focus (simp only [go_sem, hNE, e_58]; first | done | exact rfl))))
  rw [g1, ← feq]
  (first | apply pend rs101 | apply pendN rs101); (focus (simp only [go_sem]; first | done | exact rfl)); (focus (simp only [go_sem]; first | done | exact rfl))
theorem p102 (x first : Dum) : PPure Try.prog 102 (encD x :: capD first) (.bool (g2 first x)) := by
  simp only [encD, capD]
  (refine ppure_of_T ok102 (by simp only [List.length_cons, List.length_nil]; decide) ?_; refine t_seq ?_)
  (have hNE := True.intro; have hC := True.intro; repeat' first
      | with_reducible refine k_seq ?_
      | with_reducible refine t_seq ?_
      | with_reducible refine t_reg ?_
      | with_reducible refine t_nil ?_
      | with_reducible refine t_ret ?_
      | ((with_reducible apply te_val); exact rfl; (intro _ _ _ h; cases h); (focus (simp only [go_sem, hNE]; first | done | exact rfl)))
      | ((with_reducible apply te_callS); (focus (simp only [go_sem, hNE]; first | done | exact rfl)); (focus (simp only [go_sem, hNE]; first | done | exact rfl)); (focus (simp only [go_sem, hNE]; first | done | exact rfl)); (first | exact p92 x first.f))
      | ((with_reducible apply te_box); (focus (simp only [go_sem, hNE]; first | done | exact rfl)); exact rfl; (focus (simp only [go_sem, hNE]; first | done | exact rfl))))
  (first | apply pend rs102 | apply pendN rs102); (focus (simp only [go_sem, g2]; first | done | exact rfl)); (focus (simp only [go_sem, g2]; first | done | exact rfl))
theorem p103 (x first : Dum) : PPure Try.prog 103 (encD x :: capD first) (.bool (g3 first x)) := by
  simp only [encD, capD]
  (refine ppure_of_T ok103 (by simp only [List.length_cons, List.length_nil]; decide) ?_; refine t_seq ?_)
  (have hNE := True.intro; have hC := True.intro; repeat' first
      | with_reducible refine k_seq ?_
      | with_reducible refine t_seq ?_
      | with_reducible refine t_reg ?_
      | with_reducible refine t_nil ?_
      | with_reducible refine t_ret ?_
      | ((with_reducible apply te_val); exact rfl; (intro _ _ _ h; cases h); (focus (simp only [go_sem, hNE]; first | done | exact rfl)))
      | ((with_reducible apply te_gval); exact rfl; (focus (simp only [go_sem, hNE]; first | done | exact rfl)); exact rfl; (intro _ _ _ h; cases h); (focus (intro hG; simp only [go_sem, hNE, hG]; first | done | exact rfl)))
      | ((with_reducible apply te_gcallS); exact rfl; (focus (simp only [go_sem, hNE]; first | done | exact rfl)); (focus (simp only [go_sem, hNE]; first | done | exact rfl)); (focus (intro hG; simp only [go_sem, hNE, hG]; first | done | exact rfl)); (focus (simp only [go_sem, hNE]; done)); (intro hG; first | exact p99f x.f first.f))
      | ((with_reducible apply te_box); (focus (simp only [go_sem, hNE]; first | done | exact rfl)); exact rfl; (focus (simp only [go_sem, hNE]; first | done | exact rfl))))
  (first | apply pend rs103 | apply pendN rs103); (focus (simp only [go_sem, g3, kindB]; first | done | exact rfl)); (focus (simp only [go_sem, g3, kindB]; first | done | exact rfl))
theorem p104 (x first : Dum) : PPure Try.prog 104 (encD x :: capD first) (.bool (g4 first x)) := by
  simp only [encD, capD]
  (refine ppure_of_T ok104 (by simp only [List.length_cons, List.length_nil]; decide) ?_; refine t_seq ?_)
  (have hNE := True.intro; have hC := True.intro; repeat' first
      | with_reducible refine k_seq ?_
      | with_reducible refine t_seq ?_
      | with_reducible refine t_reg ?_
      | with_reducible refine t_nil ?_
      | with_reducible refine t_ret ?_
      | ((with_reducible apply te_val); exact rfl; (intro _ _ _ h; cases h); (focus (simp only [go_sem, hNE]; first | done | exact rfl)))
      | ((with_reducible apply te_callS); (focus (simp only [go_sem, hNE]; first | done | exact rfl)); (focus (simp only [go_sem, hNE]; first | done | exact rfl)); (focus (simp only [go_sem, hNE]; first | done | exact rfl)); (first | exact p99f x.f first.f))
      | ((with_reducible apply te_box); (focus (simp only [go_sem, hNE]; first | done | exact rfl)); exact rfl; (focus (simp only [go_sem, hNE]; first | done | exact rfl))))
  (first | apply pend rs104 | apply pendN rs104); (focus (simp only [go_sem, g4, kindB]; first | done | exact rfl)); (focus (simp only [go_sem, g4, kindB]; first | done | exact rfl))
def sidesF (a b : Prc) (side : Int) : List Dum × List Dum := if side = 0 then (a.ds, b.ds) else (b.ds, a.ds)
theorem p82 (a b : Prc) (side : Int) : PPure Try.prog 82 [encP a, encP b, .int .i64 side] (.tup [.list .any ((sidesF a b side).1.map encD), .list .any ((sidesF a b side).2.map encD)]) := by
  simp only [encP]
  (refine ppure_of_T ok82 (by simp only [List.length_cons, List.length_nil]; decide) ?_; refine t_seq ?_)
  (have hNE := True.intro; have hC := True.intro; repeat' first
      | ((with_reducible apply te_drwE); (focus (simp only [effFl, List.map_cons, List.map_nil]; exact rfl)); (focus decide +kernel))
      | with_reducible refine k_seq ?_
      | with_reducible refine t_seq ?_
      | with_reducible refine t_reg ?_
      | with_reducible refine t_nil ?_
      | with_reducible refine t_skip ?_
      | with_reducible refine t_ret ?_
      | with_reducible refine k_seq_ret ?_
      | with_reducible refine m_nil ?_
      | ((with_reducible apply te_val); exact rfl; (intro _ _ _ h; cases h); (focus (simp only [go_sem, hNE]; first | done | exact rfl)))
      | ((with_reducible apply me_val); exact rfl; (intro _ _ _ h; cases h); (focus (simp only [go_sem, hNE]; first | done | exact rfl)))
      | ((with_reducible apply te_box); (focus (simp only [go_sem, hNE]; first | done | exact rfl)); exact rfl; (focus (simp only [go_sem, hNE]; first | done | exact rfl)))
      | ((with_reducible apply t_cond); (focus (simp only [go_sem, hNE]; first | done | exact rfl)))
      | (with_reducible intro hc; have hC := And.intro hC hc))
  · have e : side = 0 := by simpa using hC
    (first | apply pend rs82 | apply pendN rs82); (focus (simp only [go_sem, sidesF, e, clDs, nmD]; first | done | exact rfl)); (focus (simp only [go_sem, sidesF, e, clDs, nmD]; first | done | exact rfl))
  · have e : ¬ side = 0 := by simpa using hC
    (first | apply pend rs82 | apply pendN rs82); (focus (simp only [go_sem, sidesF, e, clDs, nmD]; first | done | exact rfl)); (focus (simp only [go_sem, sidesF, e, clDs, nmD]; first | done | exact rfl))
theorem named_le (ds : List Dum) (nm : List UInt8) : named ds nm < 0 ∨ (0 ≤ named ds nm ∧ named ds nm < ds.length) := by
  have : ∀ (l : List Dum) (j : Nat), idx (fun d : Dum => d.name == nm) l j = -1 ∨ ((j : Int) ≤ idx (fun d : Dum => d.name == nm) l j ∧ idx (fun d : Dum => d.name == nm) l j < j + l.length) := by
    intro l
    induction l with
    | nil => intro j; exact .inl rfl
    | cons x r ih =>
      intro j
      unfold idx
      split
      · right; simp; omega
      · have := ih (j + 1)
        rw [show ((j : Int) + 1) = ((j + 1 : Nat) : Int) from rfl]
        simp only [List.length_cons] at this ⊢
        omega
  have h := this ds 0
  unfold named
  rw [show ((0 : Nat) : Int) = 0 from rfl] at h
  omega
/-- Are the dummy arguments at an index compatible with one? -/
def compAt (x : Dum) (b : List Dum) (n : Int) : Bool := ((b[n.toNat]?).map (compB x)).getD false
def distB (a b : List Dum) (d : Dst) : Bool :=
  match a[d.first.toNat]? with
  | none => false
  | some first =>
    if d.kind = 0 then !first.elem && decide (countF (g2 first) b 0 < countF (g1 first) a 0)
    else if d.kind = 1 then decide (countF (g4 first) b 0 < countF (g3 first) a 0)
    else match a[d.second.toNat]? with
    | none => false
    | some second =>
      if (first.opt || second.opt || decide (d.second < d.first)) = true then false else
      (decide ((b.length : Int) ≤ d.first) || !compAt first b d.first) && (decide (named b second.name < 0) || !compAt second b (named b second.name))
def encS (d : Dst) : PV := .agg [.int .i64 d.kind, .int .i64 d.side, .int .i64 d.first, .int .i64 d.second]
theorem capD_ok (d : Dum) : capsOK (capD d) := capsOK_of rfl
theorem compAt_some {x y : Dum} {b : List Dum} {n : Int} (h : b[n.toNat]? = some y) : compAt x b n = compB x y := by unfold compAt; rw [h]; rfl
set_option maxHeartbeats 2000000 in
theorem p83 (a b : List Dum) (d : Dst) (ha : a.length ≤ 1000) (hb : b.length ≤ 1000) (h1 : 0 ≤ d.first) (h2 : d.first < a.length) (h3 : (d.kind = 0 ∨ d.kind = 1) ∨ (0 ≤ d.second ∧ d.second < a.length)) :
    PPure Try.prog 83 [.list .any (a.map encD), .list .any (b.map encD), encS d] (.bool (distB a b d)) := by
  obtain ⟨first, hf⟩ := get_dec h1 h2
  have q1 := p100 a 101 (capD first) (g1 first) ha (capD_ok _) (fun d => p101 d first)
  have q2 := p100 b 102 (capD first) (g2 first) hb (capD_ok _) (fun d => p102 d first)
  have q3 := p100 a 103 (capD first) (g3 first) ha (capD_ok _) (fun d => p103 d first)
  have q4 := p100 b 104 (capD first) (g4 first) hb (capD_ok _) (fun d => p104 d first)
  simp only [encS]
  by_cases k0 : d.kind = 0
  · have e : distB a b d = (!first.elem && decide (countF (g2 first) b 0 < countF (g1 first) a 0)) := by simp only [distB, hf, k0, if_true]
    (refine ppure_of_T ok83 (by simp only [List.length_cons, List.length_nil]; decide) ?_; refine t_seq ?_)
    (have hNE := True.intro; have hC := True.intro; repeat' first
        | with_reducible refine k_seq ?_
        | with_reducible refine t_seq ?_
        | with_reducible refine t_reg ?_
        | with_reducible refine t_nil ?_
        | with_reducible refine t_ret ?_
        | with_reducible refine k_seq_ret ?_
        | with_reducible refine k_blk_ret ?_
        | with_reducible refine t_block ?_
        | ((with_reducible apply te_val); exact rfl; (intro _ _ _ h; cases h); (focus (simp only [go_sem, hNE, h1, h2, hf, k0, encD]; first | done | exact rfl)))
        | ((with_reducible apply te_callO); (focus (simp only [go_sem, hNE, h1, h2, hf, k0, encD]; first | done | exact rfl)); (focus (simp only [go_sem, hNE, h1, h2, hf, k0, encD]; first | done | exact rfl)); (focus (simp only [go_sem, hNE, h1, h2, hf, k0, encD]; first | done | exact rfl)); (first | exact q1 | exact q2); exact rfl)
        | ((with_reducible apply te_gval); exact rfl; (focus (simp only [go_sem, hNE, h1, h2, hf, k0, encD]; first | done | exact rfl)); exact rfl; (intro _ _ _ h; cases h); (focus (intro hG; simp only [go_sem, hNE, h1, h2, hf, k0, encD, hG]; first | done | exact rfl)))
        | ((with_reducible apply te_gcallO); exact rfl; (focus (simp only [go_sem, hNE, h1, h2, hf, k0, encD]; first | done | exact rfl)); (focus (simp only [go_sem, hNE, h1, h2, hf, k0, encD]; first | done | exact rfl)); (focus (intro hG; simp only [go_sem, hNE, h1, h2, hf, k0, encD, hG]; first | done | exact rfl)); (focus (intro hG; simp only [go_sem, hNE, h1, h2, hf, k0, encD, hG]; first | done | exact rfl)); (intro hG; first | exact q1 | exact q2); exact rfl)
        | ((with_reducible apply te_box); (focus (simp only [go_sem, hNE, h1, h2, hf, k0, encD]; first | done | exact rfl)); exact rfl; (focus (simp only [go_sem, hNE, h1, h2, hf, k0, encD]; first | done | exact rfl)))
        | ((with_reducible apply te_alloc); (focus (simp only [go_sem, hNE, h1, h2, hf, k0, encD]; first | done | exact rfl)); exact rfl; exact rfl; (intro la ha hn1; have hNE := And.intro hNE hn1))
        | ((with_reducible apply te_store); (focus (simp only [go_sem, hNE, h1, h2, hf, k0, encD]; first | done | exact rfl)); (focus (simp only [go_sem, hNE, h1, h2, hf, k0, encD]; first | done | exact rfl)); (focus (simp only [go_sem, hNE, h1, h2, hf, k0, encD]; first | done | exact rfl)); (focus (simp only [go_sem, hNE, h1, h2, hf, k0, encD]; first | done | exact rfl)); (focus (simp only [go_sem, hNE, h1, h2, hf, k0, encD]; first | done | exact rfl)); (focus (simp only [go_sem, hNE, h1, h2, hf, k0, encD]; first | done | exact rfl)))
        | ((with_reducible apply t_cond); (focus (simp only [go_sem, hNE, h1, h2, hf, k0, encD]; first | done | exact rfl)))
        | (with_reducible intro hc; with_reducible exact Bool.noConfusion hc)
        | (with_reducible intro hc; have hC := And.intro hC hc))
    (first | apply pend rs83 | apply pendN rs83); (focus (simp only [go_sem, e]; first | done | exact rfl)); (focus (simp only [go_sem, e]; first | done | exact rfl))
  · by_cases k1 : d.kind = 1
    · have e : distB a b d = decide (countF (g4 first) b 0 < countF (g3 first) a 0) := by simp only [distB, hf, k0, k1, if_true, if_false]; rfl
      (refine ppure_of_T ok83 (by simp only [List.length_cons, List.length_nil]; decide) ?_; refine t_seq ?_)
      (have hNE := True.intro; have hC := True.intro; repeat' first
          | with_reducible refine k_seq ?_
          | with_reducible refine t_seq ?_
          | with_reducible refine t_reg ?_
          | with_reducible refine t_nil ?_
          | with_reducible refine t_ret ?_
          | with_reducible refine k_seq_ret ?_
          | with_reducible refine k_blk_ret ?_
          | with_reducible refine t_block ?_
          | ((with_reducible apply te_val); exact rfl; (intro _ _ _ h; cases h); (focus (simp only [go_sem, hNE, h1, h2, hf, k0, k1, encD]; first | done | exact rfl)))
          | ((with_reducible apply te_callO); (focus (simp only [go_sem, hNE, h1, h2, hf, k0, k1, encD]; first | done | exact rfl)); (focus (simp only [go_sem, hNE, h1, h2, hf, k0, k1, encD]; first | done | exact rfl)); (focus (simp only [go_sem, hNE, h1, h2, hf, k0, k1, encD]; first | done | exact rfl)); (first | exact q3 | exact q4); exact rfl)
          | ((with_reducible apply te_box); (focus (simp only [go_sem, hNE, h1, h2, hf, k0, k1, encD]; first | done | exact rfl)); exact rfl; (focus (simp only [go_sem, hNE, h1, h2, hf, k0, k1, encD]; first | done | exact rfl)))
          | ((with_reducible apply te_alloc); (focus (simp only [go_sem, hNE, h1, h2, hf, k0, k1, encD]; first | done | exact rfl)); exact rfl; exact rfl; (intro la ha hn1; have hNE := And.intro hNE hn1))
          | ((with_reducible apply te_store); (focus (simp only [go_sem, hNE, h1, h2, hf, k0, k1, encD]; first | done | exact rfl)); (focus (simp only [go_sem, hNE, h1, h2, hf, k0, k1, encD]; first | done | exact rfl)); (focus (simp only [go_sem, hNE, h1, h2, hf, k0, k1, encD]; first | done | exact rfl)); (focus (simp only [go_sem, hNE, h1, h2, hf, k0, k1, encD]; first | done | exact rfl)); (focus (simp only [go_sem, hNE, h1, h2, hf, k0, k1, encD]; first | done | exact rfl)); (focus (simp only [go_sem, hNE, h1, h2, hf, k0, k1, encD]; first | done | exact rfl)))
          | ((with_reducible apply t_cond); (focus (simp only [go_sem, hNE, h1, h2, hf, k0, k1, encD]; first | done | exact rfl)))
          | (with_reducible intro hc; with_reducible exact Bool.noConfusion hc)
          | (with_reducible intro hc; have hC := And.intro hC hc))
      (first | apply pend rs83 | apply pendN rs83); (focus (simp only [go_sem, e]; first | done | exact rfl)); (focus (simp only [go_sem, e]; first | done | exact rfl))
    · obtain ⟨h4, h5⟩ : 0 ≤ d.second ∧ d.second < a.length := by omega
      obtain ⟨second, hs⟩ := get_dec h4 h5
      have e : distB a b d = if (first.opt || second.opt || decide (d.second < d.first)) = true then false else
        (decide ((b.length : Int) ≤ d.first) || !compAt first b d.first) && (decide (named b second.name < 0) || !compAt second b (named b second.name)) := by
        simp only [distB, hf, hs, k0, k1, if_false]
      by_cases hl : (b.length : Int) ≤ d.first
      · rcases named_le b second.name with hn | ⟨hq1, hq2⟩
        · (refine ppure_of_T ok83 (by simp only [List.length_cons, List.length_nil]; decide) ?_; refine t_seq ?_)
          (have hNE := True.intro; have hC := True.intro; repeat' first
              | ((with_reducible apply te_drwE); (focus (simp only [effFl, List.map_cons, List.map_nil]; exact rfl)); (focus decide +kernel))
              | with_reducible refine k_seq ?_
              | with_reducible refine t_seq ?_
              | with_reducible refine t_reg ?_
              | with_reducible refine t_nil ?_
              | with_reducible refine t_skip ?_
              | with_reducible refine t_ret ?_
              | with_reducible refine k_seq_ret ?_
              | with_reducible refine k_blk ?_
              | with_reducible refine t_block ?_
              | with_reducible refine m_nil ?_
              | ((with_reducible apply te_val); exact rfl; (intro _ _ _ h; cases h); (focus (simp only [go_sem, hNE, h1, h2, hf, k0, k1, h4, h5, hs, hl, hn, encD]; first | done | exact rfl)))
              | ((with_reducible apply te_callS); (focus (simp only [go_sem, hNE, h1, h2, hf, k0, k1, h4, h5, hs, hl, hn, encD]; first | done | exact rfl)); (focus (simp only [go_sem, hNE, h1, h2, hf, k0, k1, h4, h5, hs, hl, hn, encD]; first | done | exact rfl)); (focus (simp only [go_sem, hNE, h1, h2, hf, k0, k1, h4, h5, hs, hl, hn, encD]; first | done | exact rfl)); (first | exact p91 b second.name hb))
              | ((with_reducible apply te_gval); exact rfl; (focus (simp only [go_sem, hNE, h1, h2, hf, k0, k1, h4, h5, hs, hl, hn, encD]; first | done | exact rfl)); exact rfl; (intro _ _ _ h; cases h); (focus (intro hG; simp only [go_sem, hNE, h1, h2, hf, k0, k1, h4, h5, hs, hl, hn, encD, hG]; first | done | exact rfl)))
              | ((with_reducible apply me_val); exact rfl; (intro _ _ _ h; cases h); (focus (simp only [go_sem, hNE, h1, h2, hf, k0, k1, h4, h5, hs, hl, hn, encD]; first | done | exact rfl)))
              | ((with_reducible apply me_gval); exact rfl; (focus (simp only [go_sem, hNE, h1, h2, hf, k0, k1, h4, h5, hs, hl, hn, encD]; first | done | exact rfl)); exact rfl; (intro _ _ _ h; cases h); (focus (intro hG; simp only [go_sem, hNE, h1, h2, hf, k0, k1, h4, h5, hs, hl, hn, encD, hG]; first | done | exact rfl)))
              | ((with_reducible apply me_gno); exact rfl; (focus (simp only [go_sem, hNE, h1, h2, hf, k0, k1, h4, h5, hs, hl, hn, encD]; first | done | exact rfl)); exact rfl)
              | ((with_reducible apply te_box); (focus (simp only [go_sem, hNE, h1, h2, hf, k0, k1, h4, h5, hs, hl, hn, encD]; first | done | exact rfl)); exact rfl; (focus (simp only [go_sem, hNE, h1, h2, hf, k0, k1, h4, h5, hs, hl, hn, encD]; first | done | exact rfl)))
              | ((with_reducible apply te_alloc); (focus (simp only [go_sem, hNE, h1, h2, hf, k0, k1, h4, h5, hs, hl, hn, encD]; first | done | exact rfl)); exact rfl; exact rfl; (intro la ha hn1; have hNE := And.intro hNE hn1))
              | ((with_reducible apply te_store); (focus (simp only [go_sem, hNE, h1, h2, hf, k0, k1, h4, h5, hs, hl, hn, encD]; first | done | exact rfl)); (focus (simp only [go_sem, hNE, h1, h2, hf, k0, k1, h4, h5, hs, hl, hn, encD]; first | done | exact rfl)); (focus (simp only [go_sem, hNE, h1, h2, hf, k0, k1, h4, h5, hs, hl, hn, encD]; first | done | exact rfl)); (focus (simp only [go_sem, hNE, h1, h2, hf, k0, k1, h4, h5, hs, hl, hn, encD]; first | done | exact rfl)); (focus (simp only [go_sem, hNE, h1, h2, hf, k0, k1, h4, h5, hs, hl, hn, encD]; first | done | exact rfl)); (focus (simp only [go_sem, hNE, h1, h2, hf, k0, k1, h4, h5, hs, hl, hn, encD]; first | done | exact rfl)))
              | ((with_reducible apply t_cond); (focus (simp only [go_sem, hNE, h1, h2, hf, k0, k1, h4, h5, hs, hl, hn, encD]; first | done | exact rfl)))
              | (with_reducible intro hc; with_reducible exact Bool.noConfusion hc)
              | (with_reducible intro hc; have hC := And.intro hC hc))
          · (first | apply pend rs83 | apply pendN rs83); (focus (simp only [go_sem, e, hC]; first | done | exact rfl)); (focus (simp only [go_sem, e, hC]; first | done | exact rfl))
          · (first | apply pend rs83 | apply pendN rs83); (focus (simp only [go_sem, e, hC, hl, hn]; first | done | exact rfl)); (focus (simp only [go_sem, e, hC, hl, hn]; first | done | exact rfl))
        · obtain ⟨y, hy⟩ := get_dec hq1 hq2
          have hq3 : (named b second.name < 0) = False := by simp; omega
          have hcy := compAt_some (x := second) hy
          (refine ppure_of_T ok83 (by simp only [List.length_cons, List.length_nil]; decide) ?_; refine t_seq ?_)
          (have hNE := True.intro; have hC := True.intro; repeat' first
              | ((with_reducible apply te_drwE); (focus (simp only [effFl, List.map_cons, List.map_nil]; exact rfl)); (focus decide +kernel))
              | with_reducible refine k_seq ?_
              | with_reducible refine t_seq ?_
              | with_reducible refine t_reg ?_
              | with_reducible refine t_nil ?_
              | with_reducible refine t_skip ?_
              | with_reducible refine t_ret ?_
              | with_reducible refine k_seq_ret ?_
              | with_reducible refine k_blk ?_
              | with_reducible refine t_block ?_
              | with_reducible refine m_nil ?_
              | ((with_reducible apply te_val); exact rfl; (intro _ _ _ h; cases h); (focus (simp only [go_sem, hNE, h1, h2, hf, k0, k1, h4, h5, hs, hl, hq1, hq2, hq3, hy, encD]; first | done | exact rfl)))
              | ((with_reducible apply te_callS); (focus (simp only [go_sem, hNE, h1, h2, hf, k0, k1, h4, h5, hs, hl, hq1, hq2, hq3, hy, encD]; first | done | exact rfl)); (focus (simp only [go_sem, hNE, h1, h2, hf, k0, k1, h4, h5, hs, hl, hq1, hq2, hq3, hy, encD]; first | done | exact rfl)); (focus (simp only [go_sem, hNE, h1, h2, hf, k0, k1, h4, h5, hs, hl, hq1, hq2, hq3, hy, encD]; first | done | exact rfl)); (first | exact p91 b second.name hb | exact p78 second y))
              | ((with_reducible apply te_gval); exact rfl; (focus (simp only [go_sem, hNE, h1, h2, hf, k0, k1, h4, h5, hs, hl, hq1, hq2, hq3, hy, encD]; first | done | exact rfl)); exact rfl; (intro _ _ _ h; cases h); (focus (intro hG; simp only [go_sem, hNE, h1, h2, hf, k0, k1, h4, h5, hs, hl, hq1, hq2, hq3, hy, encD, hG]; first | done | exact rfl)))
              | ((with_reducible apply me_val); exact rfl; (intro _ _ _ h; cases h); (focus (simp only [go_sem, hNE, h1, h2, hf, k0, k1, h4, h5, hs, hl, hq1, hq2, hq3, hy, encD]; first | done | exact rfl)))
              | ((with_reducible apply me_gval); exact rfl; (focus (simp only [go_sem, hNE, h1, h2, hf, k0, k1, h4, h5, hs, hl, hq1, hq2, hq3, hy, encD]; first | done | exact rfl)); exact rfl; (intro _ _ _ h; cases h); (focus (intro hG; simp only [go_sem, hNE, h1, h2, hf, k0, k1, h4, h5, hs, hl, hq1, hq2, hq3, hy, encD, hG]; first | done | exact rfl)))
              | ((with_reducible apply me_gcallS); exact rfl; (focus (simp only [go_sem, hNE, h1, h2, hf, k0, k1, h4, h5, hs, hl, hq1, hq2, hq3, hy, encD]; first | done | exact rfl)); (focus (simp only [go_sem, hNE, h1, h2, hf, k0, k1, h4, h5, hs, hl, hq1, hq2, hq3, hy, encD]; first | done | exact rfl)); (focus (intro hG; simp only [go_sem, hNE, h1, h2, hf, k0, k1, h4, h5, hs, hl, hq1, hq2, hq3, hy, encD, hG]; first | done | exact rfl)); (focus (simp only [go_sem, hNE, h1, h2, hf, k0, k1, h4, h5, hs, hl, hq1, hq2, hq3, hy, encD]; done)); (intro hG; first | exact p91 b second.name hb | exact p78 second y))
              | ((with_reducible apply me_gno); exact rfl; (focus (simp only [go_sem, hNE, h1, h2, hf, k0, k1, h4, h5, hs, hl, hq1, hq2, hq3, hy, encD]; first | done | exact rfl)); exact rfl)
              | ((with_reducible apply te_box); (focus (simp only [go_sem, hNE, h1, h2, hf, k0, k1, h4, h5, hs, hl, hq1, hq2, hq3, hy, encD]; first | done | exact rfl)); exact rfl; (focus (simp only [go_sem, hNE, h1, h2, hf, k0, k1, h4, h5, hs, hl, hq1, hq2, hq3, hy, encD]; first | done | exact rfl)))
              | ((with_reducible apply te_alloc); (focus (simp only [go_sem, hNE, h1, h2, hf, k0, k1, h4, h5, hs, hl, hq1, hq2, hq3, hy, encD]; first | done | exact rfl)); exact rfl; exact rfl; (intro la ha hn1; have hNE := And.intro hNE hn1))
              | ((with_reducible apply te_store); (focus (simp only [go_sem, hNE, h1, h2, hf, k0, k1, h4, h5, hs, hl, hq1, hq2, hq3, hy, encD]; first | done | exact rfl)); (focus (simp only [go_sem, hNE, h1, h2, hf, k0, k1, h4, h5, hs, hl, hq1, hq2, hq3, hy, encD]; first | done | exact rfl)); (focus (simp only [go_sem, hNE, h1, h2, hf, k0, k1, h4, h5, hs, hl, hq1, hq2, hq3, hy, encD]; first | done | exact rfl)); (focus (simp only [go_sem, hNE, h1, h2, hf, k0, k1, h4, h5, hs, hl, hq1, hq2, hq3, hy, encD]; first | done | exact rfl)); (focus (simp only [go_sem, hNE, h1, h2, hf, k0, k1, h4, h5, hs, hl, hq1, hq2, hq3, hy, encD]; first | done | exact rfl)); (focus (simp only [go_sem, hNE, h1, h2, hf, k0, k1, h4, h5, hs, hl, hq1, hq2, hq3, hy, encD]; first | done | exact rfl)))
              | ((with_reducible apply t_cond); (focus (simp only [go_sem, hNE, h1, h2, hf, k0, k1, h4, h5, hs, hl, hq1, hq2, hq3, hy, encD]; first | done | exact rfl)))
              | (with_reducible intro hc; with_reducible exact Bool.noConfusion hc)
              | (with_reducible intro hc; have hC := And.intro hC hc))
          · (first | apply pend rs83 | apply pendN rs83); (focus (simp only [go_sem, e, hC]; first | done | exact rfl)); (focus (simp only [go_sem, e, hC]; first | done | exact rfl))
          · (first | apply pend rs83 | apply pendN rs83); (focus (simp only [go_sem, e, hC, hl, hq3, hcy]; first | done | exact rfl)); (focus (simp only [go_sem, e, hC, hl, hq3, hcy]; first | done | exact rfl))
      · have hl1 : d.first < b.length := by omega
        obtain ⟨z, hz⟩ := get_dec h1 hl1
        have hcz := compAt_some (x := first) hz
        rcases named_le b second.name with hn | ⟨hq1, hq2⟩
        · (refine ppure_of_T ok83 (by simp only [List.length_cons, List.length_nil]; decide) ?_; refine t_seq ?_)
          (have hNE := True.intro; have hC := True.intro; repeat' first
              | ((with_reducible apply te_drwE); (focus (simp only [effFl, List.map_cons, List.map_nil]; exact rfl)); (focus decide +kernel))
              | with_reducible refine k_seq ?_
              | with_reducible refine t_seq ?_
              | with_reducible refine t_reg ?_
              | with_reducible refine t_nil ?_
              | with_reducible refine t_skip ?_
              | with_reducible refine t_ret ?_
              | with_reducible refine k_seq_ret ?_
              | with_reducible refine k_blk ?_
              | with_reducible refine t_block ?_
              | with_reducible refine m_nil ?_
              | ((with_reducible apply te_val); exact rfl; (intro _ _ _ h; cases h); (focus (simp only [go_sem, hNE, h1, h2, hf, k0, k1, h4, h5, hs, hl, hl1, hz, hn, encD]; first | done | exact rfl)))
              | ((with_reducible apply te_callS); (focus (simp only [go_sem, hNE, h1, h2, hf, k0, k1, h4, h5, hs, hl, hl1, hz, hn, encD]; first | done | exact rfl)); (focus (simp only [go_sem, hNE, h1, h2, hf, k0, k1, h4, h5, hs, hl, hl1, hz, hn, encD]; first | done | exact rfl)); (focus (simp only [go_sem, hNE, h1, h2, hf, k0, k1, h4, h5, hs, hl, hl1, hz, hn, encD]; first | done | exact rfl)); (first | exact p91 b second.name hb | exact p78 first z))
              | ((with_reducible apply te_gval); exact rfl; (focus (simp only [go_sem, hNE, h1, h2, hf, k0, k1, h4, h5, hs, hl, hl1, hz, hn, encD]; first | done | exact rfl)); exact rfl; (intro _ _ _ h; cases h); (focus (intro hG; simp only [go_sem, hNE, h1, h2, hf, k0, k1, h4, h5, hs, hl, hl1, hz, hn, encD, hG]; first | done | exact rfl)))
              | ((with_reducible apply me_val); exact rfl; (intro _ _ _ h; cases h); (focus (simp only [go_sem, hNE, h1, h2, hf, k0, k1, h4, h5, hs, hl, hl1, hz, hn, encD]; first | done | exact rfl)))
              | ((with_reducible apply me_gval); exact rfl; (focus (simp only [go_sem, hNE, h1, h2, hf, k0, k1, h4, h5, hs, hl, hl1, hz, hn, encD]; first | done | exact rfl)); exact rfl; (intro _ _ _ h; cases h); (focus (intro hG; simp only [go_sem, hNE, h1, h2, hf, k0, k1, h4, h5, hs, hl, hl1, hz, hn, encD, hG]; first | done | exact rfl)))
              | ((with_reducible apply me_gcallS); exact rfl; (focus (simp only [go_sem, hNE, h1, h2, hf, k0, k1, h4, h5, hs, hl, hl1, hz, hn, encD]; first | done | exact rfl)); (focus (simp only [go_sem, hNE, h1, h2, hf, k0, k1, h4, h5, hs, hl, hl1, hz, hn, encD]; first | done | exact rfl)); (focus (intro hG; simp only [go_sem, hNE, h1, h2, hf, k0, k1, h4, h5, hs, hl, hl1, hz, hn, encD, hG]; first | done | exact rfl)); (focus (simp only [go_sem, hNE, h1, h2, hf, k0, k1, h4, h5, hs, hl, hl1, hz, hn, encD]; done)); (intro hG; first | exact p91 b second.name hb | exact p78 first z))
              | ((with_reducible apply me_gno2); exact rfl; (focus (simp only [go_sem, hNE, h1, h2, hf, k0, k1, h4, h5, hs, hl, hl1, hz, hn, encD]; first | done | exact rfl)); exact rfl)
              | ((with_reducible apply te_box); (focus (simp only [go_sem, hNE, h1, h2, hf, k0, k1, h4, h5, hs, hl, hl1, hz, hn, encD]; first | done | exact rfl)); exact rfl; (focus (simp only [go_sem, hNE, h1, h2, hf, k0, k1, h4, h5, hs, hl, hl1, hz, hn, encD]; first | done | exact rfl)))
              | ((with_reducible apply te_alloc); (focus (simp only [go_sem, hNE, h1, h2, hf, k0, k1, h4, h5, hs, hl, hl1, hz, hn, encD]; first | done | exact rfl)); exact rfl; exact rfl; (intro la ha hn1; have hNE := And.intro hNE hn1))
              | ((with_reducible apply te_store); (focus (simp only [go_sem, hNE, h1, h2, hf, k0, k1, h4, h5, hs, hl, hl1, hz, hn, encD]; first | done | exact rfl)); (focus (simp only [go_sem, hNE, h1, h2, hf, k0, k1, h4, h5, hs, hl, hl1, hz, hn, encD]; first | done | exact rfl)); (focus (simp only [go_sem, hNE, h1, h2, hf, k0, k1, h4, h5, hs, hl, hl1, hz, hn, encD]; first | done | exact rfl)); (focus (simp only [go_sem, hNE, h1, h2, hf, k0, k1, h4, h5, hs, hl, hl1, hz, hn, encD]; first | done | exact rfl)); (focus (simp only [go_sem, hNE, h1, h2, hf, k0, k1, h4, h5, hs, hl, hl1, hz, hn, encD]; first | done | exact rfl)); (focus (simp only [go_sem, hNE, h1, h2, hf, k0, k1, h4, h5, hs, hl, hl1, hz, hn, encD]; first | done | exact rfl)))
              | ((with_reducible apply t_cond); (focus (simp only [go_sem, hNE, h1, h2, hf, k0, k1, h4, h5, hs, hl, hl1, hz, hn, encD]; first | done | exact rfl)))
              | (with_reducible intro hc; with_reducible exact Bool.noConfusion hc)
              | (with_reducible intro hc; have hC := And.intro hC hc))
          · (first | apply pend rs83 | apply pendN rs83); (focus (simp only [go_sem, e, hC]; first | done | exact rfl)); (focus (simp only [go_sem, e, hC]; first | done | exact rfl))
          · (first | apply pend rs83 | apply pendN rs83); (focus (simp only [go_sem, e, hC, hl, hn, hcz]; first | done | exact rfl)); (focus (simp only [go_sem, e, hC, hl, hn, hcz]; first | done | exact rfl))
        · obtain ⟨y, hy⟩ := get_dec hq1 hq2
          have hq3 : (named b second.name < 0) = False := by simp; omega
          have hcy := compAt_some (x := second) hy
          (refine ppure_of_T ok83 (by simp only [List.length_cons, List.length_nil]; decide) ?_; refine t_seq ?_)
          (have hNE := True.intro; have hC := True.intro; repeat' first
              | ((with_reducible apply te_drwE); (focus (simp only [effFl, List.map_cons, List.map_nil]; exact rfl)); (focus decide +kernel))
              | with_reducible refine k_seq ?_
              | with_reducible refine t_seq ?_
              | with_reducible refine t_reg ?_
              | with_reducible refine t_nil ?_
              | with_reducible refine t_skip ?_
              | with_reducible refine t_ret ?_
              | with_reducible refine k_seq_ret ?_
              | with_reducible refine k_blk ?_
              | with_reducible refine t_block ?_
              | with_reducible refine m_nil ?_
              | ((with_reducible apply te_val); exact rfl; (intro _ _ _ h; cases h); (focus (simp only [go_sem, hNE, h1, h2, hf, k0, k1, h4, h5, hs, hl, hl1, hz, hq1, hq2, hq3, hy, encD]; first | done | exact rfl)))
              | ((with_reducible apply te_callS); (focus (simp only [go_sem, hNE, h1, h2, hf, k0, k1, h4, h5, hs, hl, hl1, hz, hq1, hq2, hq3, hy, encD]; first | done | exact rfl)); (focus (simp only [go_sem, hNE, h1, h2, hf, k0, k1, h4, h5, hs, hl, hl1, hz, hq1, hq2, hq3, hy, encD]; first | done | exact rfl)); (focus (simp only [go_sem, hNE, h1, h2, hf, k0, k1, h4, h5, hs, hl, hl1, hz, hq1, hq2, hq3, hy, encD]; first | done | exact rfl)); (first | exact p91 b second.name hb | exact p78 second y | exact p78 first z))
              | ((with_reducible apply te_gval); exact rfl; (focus (simp only [go_sem, hNE, h1, h2, hf, k0, k1, h4, h5, hs, hl, hl1, hz, hq1, hq2, hq3, hy, encD]; first | done | exact rfl)); exact rfl; (intro _ _ _ h; cases h); (focus (intro hG; simp only [go_sem, hNE, h1, h2, hf, k0, k1, h4, h5, hs, hl, hl1, hz, hq1, hq2, hq3, hy, encD, hG]; first | done | exact rfl)))
              | ((with_reducible apply me_val); exact rfl; (intro _ _ _ h; cases h); (focus (simp only [go_sem, hNE, h1, h2, hf, k0, k1, h4, h5, hs, hl, hl1, hz, hq1, hq2, hq3, hy, encD]; first | done | exact rfl)))
              | ((with_reducible apply me_gval); exact rfl; (focus (simp only [go_sem, hNE, h1, h2, hf, k0, k1, h4, h5, hs, hl, hl1, hz, hq1, hq2, hq3, hy, encD]; first | done | exact rfl)); exact rfl; (intro _ _ _ h; cases h); (focus (intro hG; simp only [go_sem, hNE, h1, h2, hf, k0, k1, h4, h5, hs, hl, hl1, hz, hq1, hq2, hq3, hy, encD, hG]; first | done | exact rfl)))
              | ((with_reducible apply me_gcallS); exact rfl; (focus (simp only [go_sem, hNE, h1, h2, hf, k0, k1, h4, h5, hs, hl, hl1, hz, hq1, hq2, hq3, hy, encD]; first | done | exact rfl)); (focus (simp only [go_sem, hNE, h1, h2, hf, k0, k1, h4, h5, hs, hl, hl1, hz, hq1, hq2, hq3, hy, encD]; first | done | exact rfl)); (focus (intro hG; simp only [go_sem, hNE, h1, h2, hf, k0, k1, h4, h5, hs, hl, hl1, hz, hq1, hq2, hq3, hy, encD, hG]; first | done | exact rfl)); (focus (simp only [go_sem, hNE, h1, h2, hf, k0, k1, h4, h5, hs, hl, hl1, hz, hq1, hq2, hq3, hy, encD]; done)); (intro hG; first | exact p91 b second.name hb | exact p78 second y | exact p78 first z))
              | ((with_reducible apply me_gval2); exact rfl; (focus (simp only [go_sem, hNE, h1, h2, hf, k0, k1, h4, h5, hs, hl, hl1, hz, hq1, hq2, hq3, hy, encD]; first | done | exact rfl)); exact rfl; (intro _ _ _ h; cases h); (focus (intro hG hG2; simp only [go_sem, hNE, h1, h2, hf, k0, k1, h4, h5, hs, hl, hl1, hz, hq1, hq2, hq3, hy, encD, hG, hG2]; first | done | exact rfl)))
              | ((with_reducible apply me_gcall2); exact rfl; (focus (simp only [go_sem, hNE, h1, h2, hf, k0, k1, h4, h5, hs, hl, hl1, hz, hq1, hq2, hq3, hy, encD]; first | done | exact rfl)); (focus (simp only [go_sem, hNE, h1, h2, hf, k0, k1, h4, h5, hs, hl, hl1, hz, hq1, hq2, hq3, hy, encD]; first | done | exact rfl)); (focus (intro hG hG2; simp only [go_sem, hNE, h1, h2, hf, k0, k1, h4, h5, hs, hl, hl1, hz, hq1, hq2, hq3, hy, encD, hG, hG2]; first | done | exact rfl)); (focus (simp only [go_sem, hNE, h1, h2, hf, k0, k1, h4, h5, hs, hl, hl1, hz, hq1, hq2, hq3, hy, encD]; done)); (intro hG hG2; first | exact p91 b second.name hb | exact p78 second y | exact p78 first z))
              | ((with_reducible apply te_box); (focus (simp only [go_sem, hNE, h1, h2, hf, k0, k1, h4, h5, hs, hl, hl1, hz, hq1, hq2, hq3, hy, encD]; first | done | exact rfl)); exact rfl; (focus (simp only [go_sem, hNE, h1, h2, hf, k0, k1, h4, h5, hs, hl, hl1, hz, hq1, hq2, hq3, hy, encD]; first | done | exact rfl)))
              | ((with_reducible apply te_alloc); (focus (simp only [go_sem, hNE, h1, h2, hf, k0, k1, h4, h5, hs, hl, hl1, hz, hq1, hq2, hq3, hy, encD]; first | done | exact rfl)); exact rfl; exact rfl; (intro la ha hn1; have hNE := And.intro hNE hn1))
              | ((with_reducible apply te_store); (focus (simp only [go_sem, hNE, h1, h2, hf, k0, k1, h4, h5, hs, hl, hl1, hz, hq1, hq2, hq3, hy, encD]; first | done | exact rfl)); (focus (simp only [go_sem, hNE, h1, h2, hf, k0, k1, h4, h5, hs, hl, hl1, hz, hq1, hq2, hq3, hy, encD]; first | done | exact rfl)); (focus (simp only [go_sem, hNE, h1, h2, hf, k0, k1, h4, h5, hs, hl, hl1, hz, hq1, hq2, hq3, hy, encD]; first | done | exact rfl)); (focus (simp only [go_sem, hNE, h1, h2, hf, k0, k1, h4, h5, hs, hl, hl1, hz, hq1, hq2, hq3, hy, encD]; first | done | exact rfl)); (focus (simp only [go_sem, hNE, h1, h2, hf, k0, k1, h4, h5, hs, hl, hl1, hz, hq1, hq2, hq3, hy, encD]; first | done | exact rfl)); (focus (simp only [go_sem, hNE, h1, h2, hf, k0, k1, h4, h5, hs, hl, hl1, hz, hq1, hq2, hq3, hy, encD]; first | done | exact rfl)))
              | ((with_reducible apply t_cond); (focus (simp only [go_sem, hNE, h1, h2, hf, k0, k1, h4, h5, hs, hl, hl1, hz, hq1, hq2, hq3, hy, encD]; first | done | exact rfl)))
              | (with_reducible intro hc; with_reducible exact Bool.noConfusion hc)
              | (with_reducible intro hc; have hC := And.intro hC hc))
          · (first | apply pend rs83 | apply pendN rs83); (focus (simp only [go_sem, e, hC]; first | done | exact rfl)); (focus (simp only [go_sem, e, hC]; first | done | exact rfl))
          · (first | apply pend rs83 | apply pendN rs83); (focus (simp only [go_sem, e, hC, hl, hq3, hcy, hcz]; first | done | exact rfl)); (focus (simp only [go_sem, e, hC, hl, hq3, hcy, hcz]; first | done | exact rfl))
end Go.Proofs.Ytloecggdboingaa
namespace Go.Proofs.Ytloecggdboingaa
open Go.RowKit Go.Proofs
set_option linter.unusedVariables false
set_option linter.unusedSimpArgs false
attribute [local irreducible] PPure

/-- The errors of the numbers of a rule. -/
def dstErr1 (a b : Prc) (d : Dst) : Int := orE [bothErr a b, broken [(inB d.kind 0 2, 15), (inB d.side 0 1, 2)]]
def dstErr2 (own : List Dum) (d : Dst) : Int :=
  broken [(inB d.first 0 ((own.length : Int) - 1) && (!decide (d.kind = 2) || inB d.second 0 ((own.length : Int) - 1)), 6), (decide (d.kind = 2) || decide (d.second = 0), 3)]
def checkDst (a b : Prc) (d : Dst) : Int :=
  if dstErr1 a b d = 0 then
    if dstErr2 (sidesF a b d.side).1 d = 0 then broken [(distB (sidesF a b d.side).1 (sidesF a b d.side).2 d, 19)]
    else dstErr2 (sidesF a b d.side).1 d
  else dstErr1 a b d
theorem sidesF_len {a b : Prc} {s : Int} {n : Nat} (ha : a.ds.length ≤ n) (hb : b.ds.length ≤ n) : (sidesF a b s).1.length ≤ n ∧ (sidesF a b s).2.length ≤ n := by
  unfold sidesF; split <;> exact ⟨by assumption, by assumption⟩
theorem p81i (n lo hi : Int) : PPure Try.prog 81 [.int .i64 n, .int .i64 lo, .int .i64 hi] (.bool (inB n lo hi)) := p81 n lo hi
theorem dstErr_ok {a b : Prc} {own : List Dum} {d : Dst} (h1 : dstErr1 a b d = 0) (h2 : dstErr2 own d = 0) :
    0 ≤ d.first ∧ d.first < own.length ∧ ((d.kind = 0 ∨ d.kind = 1) ∨ (0 ≤ d.second ∧ d.second < own.length)) := by
  have b1 : inB d.kind 0 2 = true := by
    cases hb : inB d.kind 0 2 with
    | true => rfl
    | false =>
      exfalso
      simp only [dstErr1, orE, broken, hb, Bool.false_eq_true, if_false] at h1
      split at h1 <;> first | contradiction | omega
  have b2 : (inB d.first 0 ((own.length : Int) - 1) && (!decide (d.kind = 2) || inB d.second 0 ((own.length : Int) - 1))) = true := by
    cases hb : (inB d.first 0 ((own.length : Int) - 1) && (!decide (d.kind = 2) || inB d.second 0 ((own.length : Int) - 1))) with
    | true => rfl
    | false =>
      exfalso
      simp only [dstErr2, broken, hb, Bool.false_eq_true, if_false] at h2
      omega
  simp [inB] at b1 b2
  omega
theorem p39 (a b : Prc) (d : Dst) (ha : a.ds.length ≤ 1000) (hb : b.ds.length ≤ 1000) : PPure Try.prog 39 [encP a, encP b, encS d] (.int .i64 (checkDst a b d)) := by
  have q82 := p82 a b d.side
  obtain ⟨hl1, hl2⟩ := sidesF_len (s := d.side) ha hb
  have ce : checkDst a b d = if dstErr1 a b d = 0 then if dstErr2 (sidesF a b d.side).1 d = 0 then broken [(distB (sidesF a b d.side).1 (sidesF a b d.side).2 d, 19)] else dstErr2 (sidesF a b d.side).1 d else dstErr1 a b d := rfl
  obtain ⟨⟨own, other⟩, hs⟩ : ∃ r, sidesF a b d.side = r := ⟨_, rfl⟩
  rw [hs] at q82 ce hl1 hl2
  simp only at q82 ce hl1 hl2
  have HW : IntKind.i64.wrap ((own.length : Int) - 1) = (own.length : Int) - 1 := by rw [IntKind.wrap_i64]; omega
  simp only [encP, encS] at q82 ⊢
  (refine ppure_of_T ok39 (by simp only [List.length_cons, List.length_nil]; decide) ?_; refine t_seq ?_)
  (have hNE := True.intro; have hC := True.intro; repeat' first
      | ((with_reducible apply te_drwE); (focus (simp only [effFl, List.map_cons, List.map_nil]; exact rfl)); (focus decide +kernel))
      | with_reducible refine k_seq ?_
      | with_reducible refine t_seq ?_
      | with_reducible refine t_reg ?_
      | with_reducible refine t_nil ?_
      | with_reducible refine t_skip ?_
      | with_reducible refine t_ret ?_
      | with_reducible refine k_seq_ret ?_
      | with_reducible refine m_nil ?_
      | ((with_reducible apply te_val); exact rfl; (intro _ _ _ h; cases h); (focus (simp only [go_sem, hNE, encP, HW]; first | done | exact rfl)))
      | ((with_reducible apply te_callS); (focus (simp only [go_sem, hNE, encP, HW]; first | done | exact rfl)); (focus (simp only [go_sem, hNE, encP, HW]; first | done | exact rfl)); (focus (simp only [go_sem, hNE, encP, HW]; first | done | exact rfl)); (first | exact p59 a b ha hb | exact p81i _ _ _ | exact p57_2 _ _ _ _ | exact p53_2 _ _ | exact q82))
      | ((with_reducible apply te_gval); exact rfl; (focus (simp only [go_sem, hNE, encP, HW]; first | done | exact rfl)); exact rfl; (intro _ _ _ h; cases h); (focus (intro hG; simp only [go_sem, hNE, encP, HW, hG]; first | done | exact rfl)))
      | ((with_reducible apply te_gval2); exact rfl; (focus (simp only [go_sem, hNE, encP, HW]; first | done | exact rfl)); exact rfl; (intro _ _ _ h; cases h); (focus (intro hG hG2; simp only [go_sem, hNE, encP, HW, hG, hG2]; first | done | exact rfl)))
      | ((with_reducible apply te_gcall2); exact rfl; (focus (simp only [go_sem, hNE, encP, HW]; first | done | exact rfl)); (focus (simp only [go_sem, hNE, encP, HW]; first | done | exact rfl)); (focus (intro hG hG2; simp only [go_sem, hNE, encP, HW, hG, hG2]; first | done | exact rfl)); (focus (simp only [go_sem, hNE, encP, HW]; done)); (intro hG hG2; first | exact p59 a b ha hb | exact p81i _ _ _ | exact p57_2 _ _ _ _ | exact p53_2 _ _ | exact q82))
      | ((with_reducible apply me_val); exact rfl; (intro _ _ _ h; cases h); (focus (simp only [go_sem, hNE, encP, HW]; first | done | exact rfl)))
      | ((with_reducible apply me_callS); (focus (simp only [go_sem, hNE, encP, HW]; first | done | exact rfl)); (focus (simp only [go_sem, hNE, encP, HW]; first | done | exact rfl)); (focus (simp only [go_sem, hNE, encP, HW]; first | done | exact rfl)); (first | exact p59 a b ha hb | exact p81i _ _ _ | exact p57_2 _ _ _ _ | exact p53_2 _ _ | exact q82))
      | ((with_reducible apply te_box); (focus (simp only [go_sem, hNE, encP, HW]; first | done | exact rfl)); exact rfl; (focus (simp only [go_sem, hNE, encP, HW]; first | done | exact rfl)))
      | ((with_reducible apply t_cond); (focus (simp only [go_sem, hNE, encP, HW]; first | done | exact rfl)))
      | (with_reducible intro hc; have hC := And.intro hC hc))
  · have e : ¬ dstErr1 a b d = 0 := by simpa [dstErr1] using hC
    rw [ce, if_neg e]
    (first | apply pend rs39 | apply pendN rs39); (focus (simp only [go_sem, dstErr1]; first | done | exact rfl)); (focus (simp only [go_sem, dstErr1]; first | done | exact rfl))
  · obtain ⟨hC0, hC1⟩ := hC
    have e : dstErr1 a b d = 0 := by simpa [dstErr1] using hC0
    have e2 : ¬ dstErr2 own d = 0 := by simpa [dstErr2] using hC1
    rw [ce, if_pos e, if_neg e2]
    (first | apply pend rs39 | apply pendN rs39); (focus (simp only [go_sem, dstErr2]; first | done | exact rfl)); (focus (simp only [go_sem, dstErr2]; first | done | exact rfl))
  · obtain ⟨hC0, hC1⟩ := hC
    have e : dstErr1 a b d = 0 := by simpa [dstErr1] using hC0
    have e2 : dstErr2 own d = 0 := by simpa [dstErr2] using hC1
    obtain ⟨h1, h2, h3⟩ := dstErr_ok e e2
    rw [ce, if_pos e, if_pos e2]
    (have hNE := True.intro; have hC := True.intro; repeat' first
        | with_reducible refine k_seq ?_
        | with_reducible refine t_nil ?_
        | with_reducible refine t_ret ?_
        | ((with_reducible apply te_val); exact rfl; (intro _ _ _ h; cases h); (focus (simp only [go_sem, hNE]; first | done | exact rfl)))
        | ((with_reducible apply te_callS); (focus (simp only [go_sem, hNE]; first | done | exact rfl)); (focus (simp only [go_sem, hNE]; first | done | exact rfl)); (focus (simp only [go_sem, hNE]; first | done | exact rfl)); (first | exact p83 own other d hl1 hl2 h1 h2 h3 | exact p57_1 _ _)))
    (first | apply pend rs39 | apply pendN rs39); (focus (simp only [go_sem]; first | done | exact rfl)); (focus (simp only [go_sem]; first | done | exact rfl))

/-- The first number from i on, of k ones, that something answers. -/
def srch {α : Type} (f : Nat → Option α) : Nat → Nat → Option α
  | 0, _ => none
  | k + 1, i => match f i with
    | some x => some x
    | none => srch f k (i + 1)
def dS4 (own other : List Dum) (kind side first : Nat) (second : Nat) : Option Dst := if distB own other ⟨kind, side, first, second⟩ = true then some ⟨kind, side, first, second⟩ else none
def secs (kind : Nat) (own : List Dum) : Nat := if kind = 2 then own.length else 1
def dS3 (own other : List Dum) (kind side : Nat) (first : Nat) : Option Dst := srch (dS4 own other kind side first) (secs kind own) 0
def dS2 (a b : Prc) (kind : Nat) (side : Nat) : Option Dst := srch (dS3 (sidesF a b side).1 (sidesF a b side).2 kind side) (sidesF a b side).1.length 0
def dS1 (a b : Prc) (kind : Nat) : Option Dst := srch (dS2 a b kind) 2 0
def distF (a b : Prc) : Option Dst := srch (dS1 a b) 3 0
def dst0 : Dst := ⟨0, 0, 0, 0⟩
set_option maxHeartbeats 2000000 in
theorem p84 (a b : Prc) (hA1 : a.ds.length ≤ 1000) (hB1 : b.ds.length ≤ 1000) : PPure Try.prog 84 [encP a, encP b] (.tup [encS ((distF a b).getD dst0), .bool (distF a b).isSome]) := by
  simp only [encP]
  (refine ppure_of_T ok84 (by simp only [List.length_cons, List.length_nil]; decide) ?_; refine t_seq ?_)
  (have hNE := True.intro; have hC := True.intro; repeat' first
      | with_reducible refine k_seq ?_
      | with_reducible refine t_seq ?_
      | with_reducible refine t_reg ?_
      | with_reducible refine t_nil ?_
      | with_reducible refine t_block ?_
      | ((with_reducible apply te_val); exact rfl; (intro _ _ _ h; cases h); (focus (simp only [go_sem, hNE, encP]; first | done | exact rfl)))
      | ((with_reducible apply te_box); (focus (simp only [go_sem, hNE, encP]; first | done | exact rfl)); exact rfl; (focus (simp only [go_sem, hNE, encP]; first | done | exact rfl)))
      | ((with_reducible apply te_alloc); (focus (simp only [go_sem, hNE, encP]; first | done | exact rfl)); exact rfl; exact rfl; (intro la ha hn1; have hNE := And.intro hNE hn1)))
  obtain ⟨l4, hl4⟩ : ∃ l, l = la := ⟨la, rfl⟩
  subst hl4
  refine t_loopE (fun (k0 : Nat) (E0 : Nat → PV) (H0 : Hp) => ∃ (i : Nat), i + k0 = 3 ∧ srch (dS1 a b) k0 i = distF a b ∧ H0 l4 = some (.row true 4 [.agg [.int .i64 0, .int .i64 0, .int .i64 0, .int .i64 0]]) ∧ E0 14 = .int .i64 i) (3) ⟨0, (by first | omega | rfl | assumption | (simp only [go_sem]; first | done | rfl | assumption | omega)), (by first | omega | rfl | assumption | (simp only [go_sem]; first | done | rfl | assumption | omega)), (by first | omega | rfl | assumption | (simp only [go_sem]; first | done | rfl | assumption | omega)), (by simp only [go_sem]; first | done | rfl)⟩ ?_
  rintro k0 E0 H0 hfr0 ⟨i, hk, hr, hz0, h0_14⟩
  have e0_2 := hfr0 2 rfl; have e0_3 := hfr0 3 rfl; have e0_4 := hfr0 4 rfl
  simp only [go_sem] at e0_2 e0_3 e0_4
  clear hfr0
  by_cases hi : i < 3
  · have hlt : ((i : Int) < 3) := by omega
    have hw0 : IntKind.i64.wrap ((i : Int) + 1) = ((i + 1 : Nat) : Int) := by rw [IntKind.wrap_i64]; omega
    obtain ⟨k0', hk0⟩ : ∃ k', k0 = k' + 1 := ⟨k0 - 1, by omega⟩
    have hk1 : k0 - 1 = k0' := by omega
    rw [hk0, srch] at hr
    (have hA := And.intro e0_2 (And.intro e0_3 (And.intro e0_4 (And.intro h0_14 (hz0)))); have hNE := True.intro; have hC := True.intro; repeat' first
        | with_reducible refine k_seq ?_
        | with_reducible refine t_seq ?_
        | with_reducible refine t_reg ?_
        | with_reducible refine t_nil ?_
        | with_reducible refine t_skip ?_
        | with_reducible refine t_block ?_
        | ((with_reducible apply te_val); exact rfl; (intro _ _ _ h; cases h); (focus (simp only [go_sem, hNE, hA, hlt, encP]; first | done | exact rfl)))
        | ((with_reducible apply t_cond); (focus (simp only [go_sem, hNE, hA, hlt, encP]; first | done | exact rfl)))
        | (with_reducible intro hc; with_reducible exact Bool.noConfusion hc)
        | (with_reducible intro hc; have hC := And.intro hC hc))
    refine t_loopE (fun (k2 : Nat) (E2 : Nat → PV) (H2 : Hp) => ∃ (j : Nat), j + k2 = 2 ∧ srch (dS2 a b i) k2 j = dS1 a b i ∧ H2 l4 = some (.row true 4 [.agg [.int .i64 0, .int .i64 0, .int .i64 0, .int .i64 0]]) ∧ E2 17 = .int .i64 j) (2) ⟨0, (by first | omega | rfl | assumption | (simp only [go_sem, e0_2, e0_3, e0_4, h0_14, hz0, hlt]; first | done | rfl | assumption | omega)), (by first | omega | rfl | assumption | (simp only [go_sem, e0_2, e0_3, e0_4, h0_14, hz0, hlt]; first | done | rfl | assumption | omega)), (by first | omega | rfl | assumption | (simp only [go_sem, e0_2, e0_3, e0_4, h0_14, hz0, hlt]; first | done | rfl | assumption | omega)), (by simp only [go_sem, e0_2, e0_3, e0_4, h0_14, hz0, hlt]; first | done | rfl)⟩ ?_
    rintro k2 E2 H2 hfr2 ⟨j, hk2, hr2, hz2, h2_17⟩
    have e2_2 := hfr2 2 rfl; have e2_3 := hfr2 3 rfl; have e2_4 := hfr2 4 rfl; have e2_6 := hfr2 6 rfl; have e2_14 := hfr2 14 rfl
    simp only [go_sem, e0_2, e0_3, e0_4, h0_14, hz0, hlt] at e2_2 e2_3 e2_4 e2_6 e2_14
    clear hfr2
    by_cases hj : j < 2
    · have hlt2 : ((j : Int) < 2) := by omega
      have hw2 : IntKind.i64.wrap ((j : Int) + 1) = ((j + 1 : Nat) : Int) := by rw [IntKind.wrap_i64]; omega
      obtain ⟨k2', hk2'⟩ : ∃ k', k2 = k' + 1 := ⟨k2 - 1, by omega⟩
      have hk3 : k2 - 1 = k2' := by omega
      rw [hk2', srch] at hr2
      have q82 := p82 a b j
      obtain ⟨hl1, hl2⟩ := sidesF_len (s := j) hA1 hB1
      have hS : dS2 a b i j = srch (dS3 (sidesF a b j).1 (sidesF a b j).2 i j) (sidesF a b j).1.length 0 := rfl
      obtain ⟨⟨own, other⟩, hs⟩ : ∃ r, sidesF a b j = r := ⟨_, rfl⟩
      rw [hs] at q82 hl1 hl2 hS
      simp only [encP] at q82 hl1 hl2 hS
      (have hA := And.intro e0_2 (And.intro e0_3 (And.intro e0_4 (And.intro h0_14 (And.intro hz0 (And.intro e2_2 (And.intro e2_3 (And.intro e2_4 (And.intro e2_6 (And.intro e2_14 (And.intro h2_17 (hz2))))))))))); have hNE := True.intro; have hC := True.intro; repeat' first
          | with_reducible refine k_seq ?_
          | with_reducible refine t_seq ?_
          | with_reducible refine t_reg ?_
          | with_reducible refine t_nil ?_
          | with_reducible refine t_skip ?_
          | with_reducible refine t_block ?_
          | ((with_reducible apply te_val); exact rfl; (intro _ _ _ h; cases h); (focus (simp only [go_sem, hNE, hA, hlt2, encP]; first | done | exact rfl)))
          | ((with_reducible apply te_callS); (focus (simp only [go_sem, hNE, hA, hlt2, encP]; first | done | exact rfl)); (focus (simp only [go_sem, hNE, hA, hlt2, encP]; first | done | exact rfl)); (focus (simp only [go_sem, hNE, hA, hlt2, encP]; first | done | exact rfl)); (first | exact q82))
          | ((with_reducible apply t_cond); (focus (simp only [go_sem, hNE, hA, hlt2, encP]; first | done | exact rfl)))
          | (with_reducible intro hc; with_reducible exact Bool.noConfusion hc)
          | (with_reducible intro hc; have hC := And.intro hC hc))
      refine t_loopE (fun (k4 : Nat) (E4 : Nat → PV) (H4 : Hp) => ∃ (f : Nat), f + k4 = own.length ∧ srch (dS3 own other i j) k4 f = srch (dS3 own other i j) own.length 0 ∧ H4 l4 = some (.row true 4 [.agg [.int .i64 0, .int .i64 0, .int .i64 0, .int .i64 0]]) ∧ E4 29 = .int .i64 f) (own.length) ⟨0, (by first | omega | rfl | assumption | (simp only [go_sem, e0_2, e0_3, e0_4, h0_14, hz0, e2_2, e2_3, e2_4, e2_6, e2_14, h2_17, hz2, hlt2]; first | done | rfl | assumption | omega)), (by first | omega | rfl | assumption | (simp only [go_sem, e0_2, e0_3, e0_4, h0_14, hz0, e2_2, e2_3, e2_4, e2_6, e2_14, h2_17, hz2, hlt2]; first | done | rfl | assumption | omega)), (by first | omega | rfl | assumption | (simp only [go_sem, e0_2, e0_3, e0_4, h0_14, hz0, e2_2, e2_3, e2_4, e2_6, e2_14, h2_17, hz2, hlt2]; first | done | rfl | assumption | omega)), (by simp only [go_sem, e0_2, e0_3, e0_4, h0_14, hz0, e2_2, e2_3, e2_4, e2_6, e2_14, h2_17, hz2, hlt2]; first | done | rfl)⟩ ?_
      rintro k4 E4 H4 hfr4 ⟨f, hk4, hr4, hz4, h4_29⟩
      have e4_2 := hfr4 2 rfl; have e4_3 := hfr4 3 rfl; have e4_4 := hfr4 4 rfl; have e4_6 := hfr4 6 rfl; have e4_7 := hfr4 7 rfl; have e4_8 := hfr4 8 rfl; have e4_9 := hfr4 9 rfl; have e4_14 := hfr4 14 rfl; have e4_17 := hfr4 17 rfl; have e4_28 := hfr4 28 rfl
      simp only [go_sem, e0_2, e0_3, e0_4, h0_14, hz0, e2_2, e2_3, e2_4, e2_6, e2_14, h2_17, hz2, hlt2] at e4_2 e4_3 e4_4 e4_6 e4_7 e4_8 e4_9 e4_14 e4_17 e4_28
      clear hfr4
      by_cases hf : f < own.length
      · have hlt4 := lt_int hf
        have hw4 := wrap_next hf hl1
        obtain ⟨k4', hk4'⟩ : ∃ k', k4 = k' + 1 := ⟨k4 - 1, by omega⟩
        have hk5 : k4 - 1 = k4' := by omega
        rw [hk4', srch] at hr4
        (have hA := And.intro e0_2 (And.intro e0_3 (And.intro e0_4 (And.intro h0_14 (And.intro hz0 (And.intro e2_2 (And.intro e2_3 (And.intro e2_4 (And.intro e2_6 (And.intro e2_14 (And.intro h2_17 (And.intro hz2 (And.intro e4_2 (And.intro e4_3 (And.intro e4_4 (And.intro e4_6 (And.intro e4_7 (And.intro e4_8 (And.intro e4_9 (And.intro e4_14 (And.intro e4_17 (And.intro e4_28 (And.intro h4_29 (hz4))))))))))))))))))))))); have hNE := True.intro; have hC := True.intro; repeat' first
            | with_reducible refine k_seq ?_
            | with_reducible refine t_seq ?_
            | with_reducible refine t_reg ?_
            | with_reducible refine t_nil ?_
            | with_reducible refine t_skip ?_
            | with_reducible refine t_block ?_
            | ((with_reducible apply te_val); exact rfl; (intro _ _ _ h; cases h); (focus (simp only [go_sem, hNE, hA, hlt4, encP]; first | done | exact rfl)))
            | ((with_reducible apply t_cond); (focus (simp only [go_sem, hNE, hA, hlt4, encP]; first | done | exact rfl)))
            | (with_reducible intro hc; with_reducible exact Bool.noConfusion hc)
            | (with_reducible intro hc; have hC := And.intro hC hc))
        · have hk2e : i = 2 := by
            have := hc
            simp at this; omega
          have hsec : secs i own = own.length := by simp [secs, hk2e]
          have hg83 : ∀ g : Nat, g < own.length → (((i : Int) = 0 ∨ (i : Int) = 1) ∨ (0 ≤ (g : Int) ∧ (g : Int) < own.length)) := fun g hg => .inr (by omega)
          have hNb : own.length ≤ 1000 := hl1
          refine t_loopE (fun (k6 : Nat) (E6 : Nat → PV) (H6 : Hp) => ∃ (g : Nat), g + k6 = own.length ∧ srch (dS4 own other i j f) k6 g = srch (dS4 own other i j f) (own.length) 0 ∧ H6 l4 = some (.row true 4 [.agg [.int .i64 0, .int .i64 0, .int .i64 0, .int .i64 0]]) ∧ E6 37 = .int .i64 g) (own.length) ⟨0, (by first | omega | rfl | assumption | (simp only [go_sem, e0_2, e0_3, e0_4, h0_14, hz0, e2_2, e2_3, e2_4, e2_6, e2_14, h2_17, hz2, e4_2, e4_3, e4_4, e4_6, e4_7, e4_8, e4_9, e4_14, e4_17, e4_28, h4_29, hz4, hlt4]; first | done | rfl | assumption | omega)), (by first | omega | rfl | assumption | (simp only [go_sem, e0_2, e0_3, e0_4, h0_14, hz0, e2_2, e2_3, e2_4, e2_6, e2_14, h2_17, hz2, e4_2, e4_3, e4_4, e4_6, e4_7, e4_8, e4_9, e4_14, e4_17, e4_28, h4_29, hz4, hlt4]; first | done | rfl | assumption | omega)), (by first | omega | rfl | assumption | (simp only [go_sem, e0_2, e0_3, e0_4, h0_14, hz0, e2_2, e2_3, e2_4, e2_6, e2_14, h2_17, hz2, e4_2, e4_3, e4_4, e4_6, e4_7, e4_8, e4_9, e4_14, e4_17, e4_28, h4_29, hz4, hlt4]; first | done | rfl | assumption | omega)), (by simp only [go_sem, e0_2, e0_3, e0_4, h0_14, hz0, e2_2, e2_3, e2_4, e2_6, e2_14, h2_17, hz2, e4_2, e4_3, e4_4, e4_6, e4_7, e4_8, e4_9, e4_14, e4_17, e4_28, h4_29, hz4, hlt4]; first | done | rfl)⟩ ?_
          rintro k6 E6 H6 hfr6 ⟨g, hk6, hr6, hz6, h6_37⟩
          have e6_2 := hfr6 2 rfl; have e6_3 := hfr6 3 rfl; have e6_4 := hfr6 4 rfl; have e6_6 := hfr6 6 rfl; have e6_7 := hfr6 7 rfl; have e6_8 := hfr6 8 rfl; have e6_9 := hfr6 9 rfl; have e6_10 := hfr6 10 rfl; have e6_14 := hfr6 14 rfl; have e6_17 := hfr6 17 rfl; have e6_28 := hfr6 28 rfl; have e6_29 := hfr6 29 rfl; have e6_36 := hfr6 36 rfl
          simp only [go_sem, e0_2, e0_3, e0_4, h0_14, hz0, e2_2, e2_3, e2_4, e2_6, e2_14, h2_17, hz2, e4_2, e4_3, e4_4, e4_6, e4_7, e4_8, e4_9, e4_14, e4_17, e4_28, h4_29, hz4, hlt4] at e6_2 e6_3 e6_4 e6_6 e6_7 e6_8 e6_9 e6_10 e6_14 e6_17 e6_28 e6_29 e6_36
          clear hfr6
          by_cases hg : g < own.length
          · have hlt6 : ((g : Int) < (own.length : Int)) := by omega
            have hw6 := wrap_next hg hNb
            obtain ⟨k6', hk6'⟩ : ∃ k', k6 = k' + 1 := ⟨k6 - 1, by omega⟩
            have hk7 : k6 - 1 = k6' := by omega
            rw [hk6', srch] at hr6
            have q83 := p83 own other ⟨i, j, f, g⟩ hl1 hl2 (by simp) (by simp only; omega) (hg83 g hg)
            simp only [encS] at q83
            (have hA := And.intro e0_2 (And.intro e0_3 (And.intro e0_4 (And.intro h0_14 (And.intro hz0 (And.intro e2_2 (And.intro e2_3 (And.intro e2_4 (And.intro e2_6 (And.intro e2_14 (And.intro h2_17 (And.intro hz2 (And.intro e4_2 (And.intro e4_3 (And.intro e4_4 (And.intro e4_6 (And.intro e4_7 (And.intro e4_8 (And.intro e4_9 (And.intro e4_14 (And.intro e4_17 (And.intro e4_28 (And.intro h4_29 (And.intro hz4 (And.intro e6_2 (And.intro e6_3 (And.intro e6_4 (And.intro e6_6 (And.intro e6_7 (And.intro e6_8 (And.intro e6_9 (And.intro e6_10 (And.intro e6_14 (And.intro e6_17 (And.intro e6_28 (And.intro e6_29 (And.intro e6_36 (And.intro h6_37 (hz6)))))))))))))))))))))))))))))))))))))); have hNE := True.intro; have hC := True.intro; repeat' first
                | with_reducible refine k_seq ?_
                | with_reducible refine t_seq ?_
                | with_reducible refine t_reg ?_
                | with_reducible refine t_nil ?_
                | with_reducible refine t_skip ?_
                | with_reducible refine t_ret ?_
                | with_reducible refine k_seq_ret ?_
                | with_reducible refine k_blk_ret ?_
                | with_reducible refine k_blk ?_
                | with_reducible refine k_invE_ret ?_
                | with_reducible refine t_block ?_
                | ((with_reducible apply te_val); exact rfl; (intro _ _ _ h; cases h); (focus (simp only [go_sem, hNE, hA, hlt6, encP, encS]; first | done | exact rfl)))
                | ((with_reducible apply te_callS); (focus (simp only [go_sem, hNE, hA, hlt6, encP, encS]; first | done | exact rfl)); (focus (simp only [go_sem, hNE, hA, hlt6, encP, encS]; first | done | exact rfl)); (focus (simp only [go_sem, hNE, hA, hlt6, encP, encS]; first | done | exact rfl)); (first | exact q83))
                | ((with_reducible apply te_alloc); (focus (simp only [go_sem, hNE, hA, hlt6, encP, encS]; first | done | exact rfl)); exact rfl; exact rfl; (intro la ha hn1; have hNE := And.intro hNE hn1))
                | ((with_reducible apply te_store); (focus (simp only [go_sem, hNE, hA, hlt6, encP, encS]; first | done | exact rfl)); (focus (simp only [go_sem, hNE, hA, hlt6, encP, encS]; first | done | exact rfl)); (focus (simp only [go_sem, hNE, hA, hlt6, encP, encS]; first | done | exact rfl)); (focus (simp only [go_sem, hNE, hA, hlt6, encP, encS]; first | done | exact rfl)); (focus (simp only [go_sem, hNE, hA, hlt6, encP, encS]; first | done | exact rfl)); (focus (simp only [go_sem, hNE, hA, hlt6, encP, encS]; first | done | exact rfl)))
                | ((with_reducible apply t_cond); (focus (simp only [go_sem, hNE, hA, hlt6, encP, encS]; first | done | exact rfl)))
                | (with_reducible intro hc; with_reducible exact Bool.noConfusion hc)
                | (with_reducible intro hc; have hC := And.intro hC hc))
            · have e4 : dS4 own other i j f g = some ⟨i, j, f, g⟩ := by simp only [dS4]; rw [if_pos (by simp only [hC])]
              rw [e4] at hr6
              simp only at hr6
              have e3 : dS3 own other i j f = some ⟨i, j, f, g⟩ := by rw [dS3, hsec, ← hr6]
              rw [e3] at hr4
              simp only at hr4
              have e2 : dS2 a b i j = some ⟨i, j, f, g⟩ := by rw [hS, ← hr4]
              rw [e2] at hr2
              simp only at hr2
              rw [← hr2] at hr
              simp only at hr
              rw [← hr]
              (first | apply pend rs84 | apply pendN rs84); (focus (simp only [go_sem, e0_2, e0_3, e0_4, h0_14, hz0, e2_2, e2_3, e2_4, e2_6, e2_14, h2_17, hz2, e4_2, e4_3, e4_4, e4_6, e4_7, e4_8, e4_9, e4_14, e4_17, e4_28, h4_29, hz4, e6_2, e6_3, e6_4, e6_6, e6_7, e6_8, e6_9, e6_10, e6_14, e6_17, e6_28, e6_29, e6_36, h6_37, hz6, encS]; first | done | exact rfl)); (focus (simp only [go_sem, e0_2, e0_3, e0_4, h0_14, hz0, e2_2, e2_3, e2_4, e2_6, e2_14, h2_17, hz2, e4_2, e4_3, e4_4, e4_6, e4_7, e4_8, e4_9, e4_14, e4_17, e4_28, h4_29, hz4, e6_2, e6_3, e6_4, e6_6, e6_7, e6_8, e6_9, e6_10, e6_14, e6_17, e6_28, e6_29, e6_36, h6_37, hz6, encS]; first | done | exact rfl))
            · have e4 : dS4 own other i j f g = none := by simp only [dS4]; rw [if_neg (by simp only [hC]; decide)]
              rw [e4] at hr6
              simp only at hr6
              refine k_invE (k6 - 1) (by omega) ⟨g + 1, (by omega), ?_, (by simp only [go_sem, e0_2, e0_3, e0_4, h0_14, hz0, e2_2, e2_3, e2_4, e2_6, e2_14, h2_17, hz2, e4_2, e4_3, e4_4, e4_6, e4_7, e4_8, e4_9, e4_14, e4_17, e4_28, h4_29, hz4, e6_2, e6_3, e6_4, e6_6, e6_7, e6_8, e6_9, e6_10, e6_14, e6_17, e6_28, e6_29, e6_36, h6_37, hz6, hw6, hNE]; first | done | rfl), (by simp only [go_sem, e0_2, e0_3, e0_4, h0_14, hz0, e2_2, e2_3, e2_4, e2_6, e2_14, h2_17, hz2, e4_2, e4_3, e4_4, e4_6, e4_7, e4_8, e4_9, e4_14, e4_17, e4_28, h4_29, hz4, e6_2, e6_3, e6_4, e6_6, e6_7, e6_8, e6_9, e6_10, e6_14, e6_17, e6_28, e6_29, e6_36, h6_37, hz6, hw6]; first | done | rfl)⟩
              rw [hk7]; exact hr6
          · have hlt6 : ((g : Int) < (own.length : Int)) = False := eq_false (by omega)
            have hz : k6 = 0 := by omega
            rw [hz, srch] at hr6
            have e3 : dS3 own other i j f = none := by rw [dS3, hsec, ← hr6]
            rw [e3] at hr4
            simp only at hr4
            (have hA := And.intro e0_2 (And.intro e0_3 (And.intro e0_4 (And.intro h0_14 (And.intro hz0 (And.intro e2_2 (And.intro e2_3 (And.intro e2_4 (And.intro e2_6 (And.intro e2_14 (And.intro h2_17 (And.intro hz2 (And.intro e4_2 (And.intro e4_3 (And.intro e4_4 (And.intro e4_6 (And.intro e4_7 (And.intro e4_8 (And.intro e4_9 (And.intro e4_14 (And.intro e4_17 (And.intro e4_28 (And.intro h4_29 (And.intro hz4 (And.intro e6_2 (And.intro e6_3 (And.intro e6_4 (And.intro e6_6 (And.intro e6_7 (And.intro e6_8 (And.intro e6_9 (And.intro e6_10 (And.intro e6_14 (And.intro e6_17 (And.intro e6_28 (And.intro e6_29 (And.intro e6_36 (And.intro h6_37 (hz6)))))))))))))))))))))))))))))))))))))); have hNE := True.intro; have hC := True.intro; repeat' first
                | with_reducible refine k_seq ?_
                | with_reducible refine t_seq ?_
                | with_reducible refine t_reg ?_
                | with_reducible refine t_nil ?_
                | with_reducible refine t_exit ?_
                | with_reducible refine k_seq_exit ?_
                | with_reducible refine k_blk_exit ?_
                | with_reducible refine k_blk ?_
                | with_reducible refine k_invE_exit ?_
                | ((with_reducible apply te_val); exact rfl; (intro _ _ _ h; cases h); (focus (simp only [go_sem, hNE, hA, hlt6, encP]; first | done | exact rfl)))
                | ((with_reducible apply t_cond); (focus (simp only [go_sem, hNE, hA, hlt6, encP]; first | done | exact rfl)))
                | (with_reducible intro hc; with_reducible exact Bool.noConfusion hc)
                | (with_reducible intro hc; have hC := And.intro hC hc))
            refine k_invE (k4 - 1) (by omega) ⟨f + 1, (by omega), ?_, (by simp only [go_sem, e0_2, e0_3, e0_4, h0_14, hz0, e2_2, e2_3, e2_4, e2_6, e2_14, h2_17, hz2, e4_2, e4_3, e4_4, e4_6, e4_7, e4_8, e4_9, e4_14, e4_17, e4_28, h4_29, hz4, e6_2, e6_3, e6_4, e6_6, e6_7, e6_8, e6_9, e6_10, e6_14, e6_17, e6_28, e6_29, e6_36, h6_37, hz6, hw4, hNE]; first | done | rfl), (by simp only [go_sem, e0_2, e0_3, e0_4, h0_14, hz0, e2_2, e2_3, e2_4, e2_6, e2_14, h2_17, hz2, e4_2, e4_3, e4_4, e4_6, e4_7, e4_8, e4_9, e4_14, e4_17, e4_28, h4_29, hz4, e6_2, e6_3, e6_4, e6_6, e6_7, e6_8, e6_9, e6_10, e6_14, e6_17, e6_28, e6_29, e6_36, h6_37, hz6, hw4]; first | done | rfl)⟩
            rw [hk5]; exact hr4
        · have hk2e : ¬ i = 2 := by
            have := hc
            simp at this; omega
          have hsec : secs i own = 1 := by simp [secs, hk2e]
          have hg83 : ∀ g : Nat, g < 1 → (((i : Int) = 0 ∨ (i : Int) = 1) ∨ (0 ≤ (g : Int) ∧ (g : Int) < own.length)) := fun g hg => .inl (by omega)
          have hNb : 1 ≤ 1000 := by decide
          refine t_loopE (fun (k6 : Nat) (E6 : Nat → PV) (H6 : Hp) => ∃ (g : Nat), g + k6 = 1 ∧ srch (dS4 own other i j f) k6 g = srch (dS4 own other i j f) (1) 0 ∧ H6 l4 = some (.row true 4 [.agg [.int .i64 0, .int .i64 0, .int .i64 0, .int .i64 0]]) ∧ E6 37 = .int .i64 g) (1) ⟨0, (by first | omega | rfl | assumption | (simp only [go_sem, e0_2, e0_3, e0_4, h0_14, hz0, e2_2, e2_3, e2_4, e2_6, e2_14, h2_17, hz2, e4_2, e4_3, e4_4, e4_6, e4_7, e4_8, e4_9, e4_14, e4_17, e4_28, h4_29, hz4, hlt4]; first | done | rfl | assumption | omega)), (by first | omega | rfl | assumption | (simp only [go_sem, e0_2, e0_3, e0_4, h0_14, hz0, e2_2, e2_3, e2_4, e2_6, e2_14, h2_17, hz2, e4_2, e4_3, e4_4, e4_6, e4_7, e4_8, e4_9, e4_14, e4_17, e4_28, h4_29, hz4, hlt4]; first | done | rfl | assumption | omega)), (by first | omega | rfl | assumption | (simp only [go_sem, e0_2, e0_3, e0_4, h0_14, hz0, e2_2, e2_3, e2_4, e2_6, e2_14, h2_17, hz2, e4_2, e4_3, e4_4, e4_6, e4_7, e4_8, e4_9, e4_14, e4_17, e4_28, h4_29, hz4, hlt4]; first | done | rfl | assumption | omega)), (by simp only [go_sem, e0_2, e0_3, e0_4, h0_14, hz0, e2_2, e2_3, e2_4, e2_6, e2_14, h2_17, hz2, e4_2, e4_3, e4_4, e4_6, e4_7, e4_8, e4_9, e4_14, e4_17, e4_28, h4_29, hz4, hlt4]; first | done | rfl)⟩ ?_
          rintro k6 E6 H6 hfr6 ⟨g, hk6, hr6, hz6, h6_37⟩
          have e6_2 := hfr6 2 rfl; have e6_3 := hfr6 3 rfl; have e6_4 := hfr6 4 rfl; have e6_6 := hfr6 6 rfl; have e6_7 := hfr6 7 rfl; have e6_8 := hfr6 8 rfl; have e6_9 := hfr6 9 rfl; have e6_10 := hfr6 10 rfl; have e6_14 := hfr6 14 rfl; have e6_17 := hfr6 17 rfl; have e6_28 := hfr6 28 rfl; have e6_29 := hfr6 29 rfl; have e6_36 := hfr6 36 rfl
          simp only [go_sem, e0_2, e0_3, e0_4, h0_14, hz0, e2_2, e2_3, e2_4, e2_6, e2_14, h2_17, hz2, e4_2, e4_3, e4_4, e4_6, e4_7, e4_8, e4_9, e4_14, e4_17, e4_28, h4_29, hz4, hlt4] at e6_2 e6_3 e6_4 e6_6 e6_7 e6_8 e6_9 e6_10 e6_14 e6_17 e6_28 e6_29 e6_36
          clear hfr6
          by_cases hg : g < 1
          · have hlt6 : ((g : Int) < (1 : Int)) := by omega
            have hw6 := wrap_next hg hNb
            obtain ⟨k6', hk6'⟩ : ∃ k', k6 = k' + 1 := ⟨k6 - 1, by omega⟩
            have hk7 : k6 - 1 = k6' := by omega
            rw [hk6', srch] at hr6
            have q83 := p83 own other ⟨i, j, f, g⟩ hl1 hl2 (by simp) (by simp only; omega) (hg83 g hg)
            simp only [encS] at q83
            (have hA := And.intro e0_2 (And.intro e0_3 (And.intro e0_4 (And.intro h0_14 (And.intro hz0 (And.intro e2_2 (And.intro e2_3 (And.intro e2_4 (And.intro e2_6 (And.intro e2_14 (And.intro h2_17 (And.intro hz2 (And.intro e4_2 (And.intro e4_3 (And.intro e4_4 (And.intro e4_6 (And.intro e4_7 (And.intro e4_8 (And.intro e4_9 (And.intro e4_14 (And.intro e4_17 (And.intro e4_28 (And.intro h4_29 (And.intro hz4 (And.intro e6_2 (And.intro e6_3 (And.intro e6_4 (And.intro e6_6 (And.intro e6_7 (And.intro e6_8 (And.intro e6_9 (And.intro e6_10 (And.intro e6_14 (And.intro e6_17 (And.intro e6_28 (And.intro e6_29 (And.intro e6_36 (And.intro h6_37 (hz6)))))))))))))))))))))))))))))))))))))); have hNE := True.intro; have hC := True.intro; repeat' first
                | with_reducible refine k_seq ?_
                | with_reducible refine t_seq ?_
                | with_reducible refine t_reg ?_
                | with_reducible refine t_nil ?_
                | with_reducible refine t_skip ?_
                | with_reducible refine t_ret ?_
                | with_reducible refine k_seq_ret ?_
                | with_reducible refine k_blk_ret ?_
                | with_reducible refine k_blk ?_
                | with_reducible refine k_invE_ret ?_
                | with_reducible refine t_block ?_
                | ((with_reducible apply te_val); exact rfl; (intro _ _ _ h; cases h); (focus (simp only [go_sem, hNE, hA, hlt6, encP, encS]; first | done | exact rfl)))
                | ((with_reducible apply te_callS); (focus (simp only [go_sem, hNE, hA, hlt6, encP, encS]; first | done | exact rfl)); (focus (simp only [go_sem, hNE, hA, hlt6, encP, encS]; first | done | exact rfl)); (focus (simp only [go_sem, hNE, hA, hlt6, encP, encS]; first | done | exact rfl)); (first | exact q83))
                | ((with_reducible apply te_alloc); (focus (simp only [go_sem, hNE, hA, hlt6, encP, encS]; first | done | exact rfl)); exact rfl; exact rfl; (intro la ha hn1; have hNE := And.intro hNE hn1))
                | ((with_reducible apply te_store); (focus (simp only [go_sem, hNE, hA, hlt6, encP, encS]; first | done | exact rfl)); (focus (simp only [go_sem, hNE, hA, hlt6, encP, encS]; first | done | exact rfl)); (focus (simp only [go_sem, hNE, hA, hlt6, encP, encS]; first | done | exact rfl)); (focus (simp only [go_sem, hNE, hA, hlt6, encP, encS]; first | done | exact rfl)); (focus (simp only [go_sem, hNE, hA, hlt6, encP, encS]; first | done | exact rfl)); (focus (simp only [go_sem, hNE, hA, hlt6, encP, encS]; first | done | exact rfl)))
                | ((with_reducible apply t_cond); (focus (simp only [go_sem, hNE, hA, hlt6, encP, encS]; first | done | exact rfl)))
                | (with_reducible intro hc; with_reducible exact Bool.noConfusion hc)
                | (with_reducible intro hc; have hC := And.intro hC hc))
            · have e4 : dS4 own other i j f g = some ⟨i, j, f, g⟩ := by simp only [dS4]; rw [if_pos (by simp only [hC])]
              rw [e4] at hr6
              simp only at hr6
              have e3 : dS3 own other i j f = some ⟨i, j, f, g⟩ := by rw [dS3, hsec, ← hr6]
              rw [e3] at hr4
              simp only at hr4
              have e2 : dS2 a b i j = some ⟨i, j, f, g⟩ := by rw [hS, ← hr4]
              rw [e2] at hr2
              simp only at hr2
              rw [← hr2] at hr
              simp only at hr
              rw [← hr]
              (first | apply pend rs84 | apply pendN rs84); (focus (simp only [go_sem, e0_2, e0_3, e0_4, h0_14, hz0, e2_2, e2_3, e2_4, e2_6, e2_14, h2_17, hz2, e4_2, e4_3, e4_4, e4_6, e4_7, e4_8, e4_9, e4_14, e4_17, e4_28, h4_29, hz4, e6_2, e6_3, e6_4, e6_6, e6_7, e6_8, e6_9, e6_10, e6_14, e6_17, e6_28, e6_29, e6_36, h6_37, hz6, encS]; first | done | exact rfl)); (focus (simp only [go_sem, e0_2, e0_3, e0_4, h0_14, hz0, e2_2, e2_3, e2_4, e2_6, e2_14, h2_17, hz2, e4_2, e4_3, e4_4, e4_6, e4_7, e4_8, e4_9, e4_14, e4_17, e4_28, h4_29, hz4, e6_2, e6_3, e6_4, e6_6, e6_7, e6_8, e6_9, e6_10, e6_14, e6_17, e6_28, e6_29, e6_36, h6_37, hz6, encS]; first | done | exact rfl))
            · have e4 : dS4 own other i j f g = none := by simp only [dS4]; rw [if_neg (by simp only [hC]; decide)]
              rw [e4] at hr6
              simp only at hr6
              refine k_invE (k6 - 1) (by omega) ⟨g + 1, (by omega), ?_, (by simp only [go_sem, e0_2, e0_3, e0_4, h0_14, hz0, e2_2, e2_3, e2_4, e2_6, e2_14, h2_17, hz2, e4_2, e4_3, e4_4, e4_6, e4_7, e4_8, e4_9, e4_14, e4_17, e4_28, h4_29, hz4, e6_2, e6_3, e6_4, e6_6, e6_7, e6_8, e6_9, e6_10, e6_14, e6_17, e6_28, e6_29, e6_36, h6_37, hz6, hw6, hNE]; first | done | rfl), (by simp only [go_sem, e0_2, e0_3, e0_4, h0_14, hz0, e2_2, e2_3, e2_4, e2_6, e2_14, h2_17, hz2, e4_2, e4_3, e4_4, e4_6, e4_7, e4_8, e4_9, e4_14, e4_17, e4_28, h4_29, hz4, e6_2, e6_3, e6_4, e6_6, e6_7, e6_8, e6_9, e6_10, e6_14, e6_17, e6_28, e6_29, e6_36, h6_37, hz6, hw6]; first | done | rfl)⟩
              rw [hk7]; exact hr6
          · have hlt6 : ((g : Int) < (1 : Int)) = False := eq_false (by omega)
            have hz : k6 = 0 := by omega
            rw [hz, srch] at hr6
            have e3 : dS3 own other i j f = none := by rw [dS3, hsec, ← hr6]
            rw [e3] at hr4
            simp only at hr4
            (have hA := And.intro e0_2 (And.intro e0_3 (And.intro e0_4 (And.intro h0_14 (And.intro hz0 (And.intro e2_2 (And.intro e2_3 (And.intro e2_4 (And.intro e2_6 (And.intro e2_14 (And.intro h2_17 (And.intro hz2 (And.intro e4_2 (And.intro e4_3 (And.intro e4_4 (And.intro e4_6 (And.intro e4_7 (And.intro e4_8 (And.intro e4_9 (And.intro e4_14 (And.intro e4_17 (And.intro e4_28 (And.intro h4_29 (And.intro hz4 (And.intro e6_2 (And.intro e6_3 (And.intro e6_4 (And.intro e6_6 (And.intro e6_7 (And.intro e6_8 (And.intro e6_9 (And.intro e6_10 (And.intro e6_14 (And.intro e6_17 (And.intro e6_28 (And.intro e6_29 (And.intro e6_36 (And.intro h6_37 (hz6)))))))))))))))))))))))))))))))))))))); have hNE := True.intro; have hC := True.intro; repeat' first
                | with_reducible refine k_seq ?_
                | with_reducible refine t_seq ?_
                | with_reducible refine t_reg ?_
                | with_reducible refine t_nil ?_
                | with_reducible refine t_exit ?_
                | with_reducible refine k_seq_exit ?_
                | with_reducible refine k_blk_exit ?_
                | with_reducible refine k_blk ?_
                | with_reducible refine k_invE_exit ?_
                | ((with_reducible apply te_val); exact rfl; (intro _ _ _ h; cases h); (focus (simp only [go_sem, hNE, hA, hlt6, encP]; first | done | exact rfl)))
                | ((with_reducible apply t_cond); (focus (simp only [go_sem, hNE, hA, hlt6, encP]; first | done | exact rfl)))
                | (with_reducible intro hc; with_reducible exact Bool.noConfusion hc)
                | (with_reducible intro hc; have hC := And.intro hC hc))
            refine k_invE (k4 - 1) (by omega) ⟨f + 1, (by omega), ?_, (by simp only [go_sem, e0_2, e0_3, e0_4, h0_14, hz0, e2_2, e2_3, e2_4, e2_6, e2_14, h2_17, hz2, e4_2, e4_3, e4_4, e4_6, e4_7, e4_8, e4_9, e4_14, e4_17, e4_28, h4_29, hz4, e6_2, e6_3, e6_4, e6_6, e6_7, e6_8, e6_9, e6_10, e6_14, e6_17, e6_28, e6_29, e6_36, h6_37, hz6, hw4, hNE]; first | done | rfl), (by simp only [go_sem, e0_2, e0_3, e0_4, h0_14, hz0, e2_2, e2_3, e2_4, e2_6, e2_14, h2_17, hz2, e4_2, e4_3, e4_4, e4_6, e4_7, e4_8, e4_9, e4_14, e4_17, e4_28, h4_29, hz4, e6_2, e6_3, e6_4, e6_6, e6_7, e6_8, e6_9, e6_10, e6_14, e6_17, e6_28, e6_29, e6_36, h6_37, hz6, hw4]; first | done | rfl)⟩
            rw [hk5]; exact hr4
      · have hlt4 := nlt_int hf
        have hz : k4 = 0 := by omega
        rw [hz, srch] at hr4
        (have hA := And.intro e0_2 (And.intro e0_3 (And.intro e0_4 (And.intro h0_14 (And.intro hz0 (And.intro e2_2 (And.intro e2_3 (And.intro e2_4 (And.intro e2_6 (And.intro e2_14 (And.intro h2_17 (And.intro hz2 (And.intro e4_2 (And.intro e4_3 (And.intro e4_4 (And.intro e4_6 (And.intro e4_7 (And.intro e4_8 (And.intro e4_9 (And.intro e4_14 (And.intro e4_17 (And.intro e4_28 (And.intro h4_29 (hz4))))))))))))))))))))))); have hNE := True.intro; have hC := True.intro; repeat' first
            | with_reducible refine k_seq ?_
            | with_reducible refine t_seq ?_
            | with_reducible refine t_reg ?_
            | with_reducible refine t_nil ?_
            | with_reducible refine t_exit ?_
            | with_reducible refine k_seq_exit ?_
            | with_reducible refine k_blk_exit ?_
            | with_reducible refine k_blk ?_
            | with_reducible refine k_invE_exit ?_
            | ((with_reducible apply te_val); exact rfl; (intro _ _ _ h; cases h); (focus (simp only [go_sem, hNE, hA, hlt4, encP]; first | done | exact rfl)))
            | ((with_reducible apply t_cond); (focus (simp only [go_sem, hNE, hA, hlt4, encP]; first | done | exact rfl)))
            | (with_reducible intro hc; with_reducible exact Bool.noConfusion hc)
            | (with_reducible intro hc; have hC := And.intro hC hc))
        refine k_invE (k2 - 1) (by omega) ⟨j + 1, (by omega), ?_, (by simp only [go_sem, e0_2, e0_3, e0_4, h0_14, hz0, e2_2, e2_3, e2_4, e2_6, e2_14, h2_17, hz2, e4_2, e4_3, e4_4, e4_6, e4_7, e4_8, e4_9, e4_14, e4_17, e4_28, h4_29, hz4, hw2, hNE]; first | done | rfl), (by simp only [go_sem, e0_2, e0_3, e0_4, h0_14, hz0, e2_2, e2_3, e2_4, e2_6, e2_14, h2_17, hz2, e4_2, e4_3, e4_4, e4_6, e4_7, e4_8, e4_9, e4_14, e4_17, e4_28, h4_29, hz4, hw2]; first | done | rfl)⟩
        rw [hS, ← hr4] at hr2
        rw [hk3]; exact hr2
    · have hlt2 : ((j : Int) < 2) = False := by simp; omega
      have hz : k2 = 0 := by omega
      rw [hz, srch] at hr2
      (have hA := And.intro e0_2 (And.intro e0_3 (And.intro e0_4 (And.intro h0_14 (And.intro hz0 (And.intro e2_2 (And.intro e2_3 (And.intro e2_4 (And.intro e2_6 (And.intro e2_14 (And.intro h2_17 (hz2))))))))))); have hNE := True.intro; have hC := True.intro; repeat' first
          | with_reducible refine k_seq ?_
          | with_reducible refine t_seq ?_
          | with_reducible refine t_reg ?_
          | with_reducible refine t_nil ?_
          | with_reducible refine t_exit ?_
          | with_reducible refine k_seq_exit ?_
          | with_reducible refine k_blk_exit ?_
          | with_reducible refine k_blk ?_
          | with_reducible refine k_invE_exit ?_
          | ((with_reducible apply te_val); exact rfl; (intro _ _ _ h; cases h); (focus (simp only [go_sem, hNE, hA, hlt2, encP]; first | done | exact rfl)))
          | ((with_reducible apply t_cond); (focus (simp only [go_sem, hNE, hA, hlt2, encP]; first | done | exact rfl)))
          | (with_reducible intro hc; with_reducible exact Bool.noConfusion hc)
          | (with_reducible intro hc; have hC := And.intro hC hc))
      refine k_invE (k0 - 1) (by omega) ⟨i + 1, (by omega), ?_, (by simp only [go_sem, e0_2, e0_3, e0_4, h0_14, hz0, e2_2, e2_3, e2_4, e2_6, e2_14, h2_17, hz2, hw0, hNE]; first | done | rfl), (by simp only [go_sem, e0_2, e0_3, e0_4, h0_14, hz0, e2_2, e2_3, e2_4, e2_6, e2_14, h2_17, hz2, hw0]; first | done | rfl)⟩
      rw [← hr2] at hr
      rw [hk1]; exact hr
  · have hlt : ((i : Int) < 3) = False := by simp; omega
    have hz : k0 = 0 := by omega
    rw [hz, srch] at hr
    (have hA := And.intro e0_2 (And.intro e0_3 (And.intro e0_4 (And.intro h0_14 (hz0)))); have hNE := True.intro; have hC := True.intro; repeat' first
        | with_reducible refine k_seq ?_
        | with_reducible refine t_seq ?_
        | with_reducible refine t_reg ?_
        | with_reducible refine t_nil ?_
        | with_reducible refine t_ret ?_
        | with_reducible refine t_exit ?_
        | with_reducible refine k_seq_exit ?_
        | with_reducible refine k_blk_exit ?_
        | with_reducible refine k_invE_exit ?_
        | ((with_reducible apply te_val); exact rfl; (intro _ _ _ h; cases h); (focus (simp only [go_sem, hNE, hA, hlt, encP]; first | done | exact rfl)))
        | ((with_reducible apply te_store); (focus (simp only [go_sem, hNE, hA, hlt, encP]; first | done | exact rfl)); (focus (simp only [go_sem, hNE, hA, hlt, encP]; first | done | exact rfl)); (focus (simp only [go_sem, hNE, hA, hlt, encP]; first | done | exact rfl)); (focus (simp only [go_sem, hNE, hA, hlt, encP]; first | done | exact rfl)); (focus (simp only [go_sem, hNE, hA, hlt, encP]; first | done | exact rfl)); (focus (simp only [go_sem, hNE, hA, hlt, encP]; first | done | exact rfl)))
        | ((with_reducible apply t_cond); (focus (simp only [go_sem, hNE, hA, hlt, encP]; first | done | exact rfl)))
        | (with_reducible intro hc; with_reducible exact Bool.noConfusion hc)
        | (with_reducible intro hc; have hC := And.intro hC hc))
    rw [← hr]
    (first | apply pend rs84 | apply pendN rs84); (focus (simp only [go_sem, e0_2, e0_3, e0_4, h0_14, hz0, dst0, encS]; first | done | exact rfl)); (focus (simp only [go_sem, e0_2, e0_3, e0_4, h0_14, hz0, dst0, encS]; first | done | exact rfl))
end Go.Proofs.Ytloecggdboingaa
