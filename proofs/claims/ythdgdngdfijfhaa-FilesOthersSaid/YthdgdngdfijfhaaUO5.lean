/- Part 5 of the proof: what the claim needs of the framework, the contracts of functions, and the laws. No conditions. -/
import Derived.Test.YthdgdngdfijfhaaUO4
namespace Go.Proofs.Ythdgdngdfijfhaa
open Go.RowKit Go.Proofs
set_option linter.unusedVariables false
set_option linter.unusedSimpArgs false
attribute [local irreducible] PPure CallN Tops TopsDm T
theorem bytesF_pos (u : Un) (p : Int) : bytesF { u with pos := p } = bytesF u := by
  have h : ∀ n, slotsN { u with pos := p } n = slotsN u n := fun n => by
    induction n with
    | zero => rfl
    | succ n ih => rw [slotsN, slotsN, ih]; rfl
  unfold bytesF
  simp only [h]
theorem slotAt_eq {u : Un} (h : Vu u) (ha : u.access = 1) (i : Nat) : (slotAt u i).length = u.width.toNat + 4 := by
  obtain ⟨h0, _⟩ | ⟨_, h1, h2, h3, h4, h5, _⟩ | ⟨h0, _⟩ := h
  · omega
  · unfold slotAt
    split
    · rename_i ht
      rw [sltF_len]
      obtain ⟨s, hs⟩ : ∃ s, u.recs[i]? = some s := ⟨u.recs[i]'(by have := (List.getElem?_eq_some_iff.1 ht).1; omega), List.getElem?_eq_getElem _⟩
      have := h5 i s true hs ht
      rw [hs]; simp at this ⊢; omega
    · simp
  · omega
theorem slotsN_eq {u : Un} (h : Vu u) (ha : u.access = 1) : ∀ n, (slotsN u n).length = n * (u.width.toNat + 4)
  | 0 => by simp [slotsN]
  | n + 1 => by rw [slotsN, List.length_append, slotsN_eq h ha n, slotAt_eq h ha n, Nat.succ_mul]
theorem evOK_done {u : Un} {a : Ac} (h : Vu u) (ha : actE a = 0) (hs : (doneF u a).2.status = 0) : evOK u a (doneF u a).1 := by
  have hv := done_valid h ha
  have hvu := h
  unfold evOK
  unfold doneF at hs hv ⊢
  by_cases hp : permF u.access a.kind = false
  · rw [if_pos hp] at hs; simp [stA] at hs
  rw [if_neg hp] at hs hv ⊢
  by_cases h6 : a.kind = 6
  · exact .inl h6
  rw [if_neg h6] at hs hv ⊢
  by_cases h7 : a.kind = 7
  · rw [if_pos h7]; exact .inr (.inl rfl)
  rw [if_neg h7] at hs hv ⊢
  by_cases h3 : a.kind = 3
  · rw [if_pos h3]; exact .inr (.inl (bytesF_pos u 0).symm)
  rw [if_neg h3] at hs hv ⊢
  by_cases h2 : u.access = 2
  · exact .inr (.inr (.inl h2))
  by_cases h1 : u.access = 1
  · rw [if_neg (by omega), if_pos h1] at hs hv ⊢
    unfold dirF at hs hv ⊢
    split at hs
    · rename_i hb
      rw [if_pos hb] at hv ⊢
      have hb' := hb
      rw [btw_true] at hb'
      split at hs
      · rename_i hk
        rw [if_pos hk]
        refine .inr (.inl ?_)
        split
        · rfl
        · split <;> rfl
      · rename_i hk
        rw [if_neg hk] at hv ⊢
        split at hs
        · simp [stA] at hs
        · rename_i hwd
          rw [if_neg hwd] at hv ⊢
          refine .inr (.inr (.inr (.inl ⟨h1, hb'.1, hb'.2, ?_⟩)))
          have e := slotsN_eq hv h1
          simp only at e
          rw [bytesF, if_neg (by simp only; omega), if_neg (by simp only; omega), e]
          rw [atF, ← Nat.succ_mul]
          refine Nat.mul_le_mul_right _ ?_
          simp only [List.length_set, List.length_append, List.length_replicate]
          omega
    · simp [stA] at hs
  · have h0 : u.access = 0 := by rcases hvu with k | k | k <;> omega
    rw [if_pos h0] at hs hv ⊢
    have bs : ∀ v : Un, v.access = 0 → bytesF v = framesF v.recs ++ (if v.ended = true then frmF 69 [] else []) := fun v hv => by rw [bytesF, if_neg (by omega), if_pos hv]
    have hp0 : 0 ≤ u.pos := by rcases hvu with k | k | k <;> omega
    unfold seqF at hs hv ⊢
    split
    · refine .inr (.inl ?_)
      split
      · exact (bytesF_pos u _).symm
      · exact (bytesF_pos u _).symm
    · split
      · rename_i hk hp; rw [if_neg hk, if_pos hp] at hs; simp [stA] at hs
      · rename_i hk2 hpl
        split
        · refine .inr (.inl ?_)
          split
          · exact (bytesF_pos u _).symm
          · exact (bytesF_pos u _).symm
        · rename_i hk0
          split
          · refine .inr (.inr (.inr (.inr ⟨h0, by omega, ?_⟩)))
            dsimp only
            rw [bs { u with recs := u.recs.take u.pos.toNat, ended := true, pos := u.pos + 1 } h0, stayF]; simp
          · rename_i hk4
            split
            · rename_i hl
              rw [if_neg hk2, if_neg hpl, if_neg hk0, if_neg hk4, if_pos hl] at hs; simp [stA] at hs
            · rename_i hl
              split
              · rename_i h60
                rw [if_neg hk2, if_neg hpl, if_neg hk0, if_neg hk4, if_neg hl, if_pos h60] at hs; simp [stA] at hs
              · refine .inr (.inr (.inr (.inr ⟨h0, by omega, ?_⟩)))
                dsimp only
                rw [bs { u with recs := u.recs.take u.pos.toNat ++ [a.bytes], ended := false, pos := u.pos + 1 } h0, stayF, framesF_append]; simp
theorem evF_len (u : Un) (a : Ac) (v : Un) : (evF u a v).length ≤ 2 := by
  unfold evF
  split
  · simp
  · split
    · simp
    · split
      · simp
      · split
        · split <;> simp
        · split <;> simp
def evS (q : Un × List Ev × List Int) (a : Ac) : Un × List Ev × List Int :=
  let es := if (doneF q.1 a).2.status = 0 then q.2.1 ++ evF q.1 a (doneF q.1 a).1 else q.2.1
  ((doneF q.1 a).1, es, q.2.2 ++ [(es.length : Int)])
def evsF (u : Un) (l : List Ac) : Un × List Ev × List Int := l.foldl evS (u, [], [])
def eofF (u : Un) (l : List Ac) : (List Ev × List Int) × Int :=
  if orE [unitE u, (actsE l).2] = 0 then ((evsF u l).2, 0) else (([], []), orE [unitE u, (actsE l).2])
attribute [local go_sem] encAc Int.toNat_natCast List.getElem?_map Option.map_some in
set_option maxHeartbeats 4000000 in
theorem p41 (u : Un) (l : List Ac) (hl : u.recs.length ≤ 1000) (hl2 : u.there.length ≤ 1000) (hll : l.length ≤ 1000) :
    PPure Try.prog 41 [encU u, .list .any (l.map encAc)] (.tup [.list .any ((eofF u l).1.1.map encEv), .list .any ((eofF u l).1.2.map encI), .int .i64 (eofF u l).2]) := by
  have h1 := p16 u hl hl2
  have h2 := p68 l hll
  have h3 := p54_2 (unitE u) (actsE l).2
  by_cases hz : orE [unitE u, (actsE l).2] = 0
  · have ez := dnz0 hz
    have hzz := hz
    rw [orE_zero] at hzz
    have hv := (unitE_zero u).1 (hzz _ (by simp))
    have ha := hzz (actsE l).2 (by simp)
    have hs : eofF u l = ((evsF u l).2, 0) := by rw [eofF, if_pos hz]
    rw [hs]
    have hall : ∀ a ∈ l, actE a = 0 := by
      unfold actsE at ha; split at ha
      · cases ha
      · exact (actsL_zero l 0).1 ha
    have hcp := p69 u hl hl2
    simp only [encU] at h1 hcp ⊢
    (refine ppure_of_T ok41 (by simp only [List.length_cons, List.length_nil]; decide) ?_; refine t_seq ?_)
    (have hA := ez; have hP := And.intro h1 (And.intro h2 (And.intro h3 (And.intro hcp (True.intro)))); have hNE := True.intro; have hC := True.intro; repeat' first
        | with_reducible first | refine k_seq ?_ | refine t_seq ?_ | refine t_reg ?_ | refine t_nil ?_ | refine t_skip ?_ | refine t_block ?_
        | refine ae_val ?_
        | refine ae_callS ?_
        | refine ae_box ?_
        | (refine ae_alloc ?_; intro la ha hn1; have hNE := And.intro hNE hn1)
        | refine ae_store ?_
        | refine a_cond ?_ ?_
        | (with_reducible intro hc; with_reducible exact Bool.noConfusion hc)
        | (with_reducible intro hc; have hC := And.intro hC hc))
    obtain ⟨lx, h5⟩ : ∃ l, l = la := ⟨la, rfl⟩
    subst h5
    refine t_loopX (fun (k0 : Nat) (E0 : Nat → PV) (H0 : Hp) => ∃ (i : Nat) (x : Un) (es : List Ev) (ms : List Int) (lo : Lab) (lm : Lab), i + k0 = l.length ∧ es.length ≤ 2 * i ∧ ms.length = i ∧ evsF u (l.take i) = (x, es, ms) ∧ Vu x ∧ (lx = lo) = False ∧ (lo = lx) = False ∧ (lx = lm) = False ∧ (lm = lx) = False ∧ (lo = lm) = False ∧ (lm = lo) = False ∧ E0 34 = .int .i64 i ∧ E0 10 = .arr lo 3 0 (es.length) ∧ E0 11 = .arr lm 1 0 (ms.length) ∧ H0 = hp [(lx, .row true 7 ([encU x])), (lo, .row true 3 (es.map encEv)), (lm, .row true 1 (ms.map encI))]) (l.length) ?_ ?_
    intro Ng
    obtain ⟨g_lo, g_lo1, g_lo2⟩ := ghost_new Ng [lx]
    have g_lo3 := (g_lo2 lx (by simp only [List.mem_cons, List.mem_nil_iff, true_or, or_true]))
    obtain ⟨g_lm, g_lm1, g_lm2⟩ := ghost_new Ng [lx, g_lo]
    have g_lm3 := (And.intro (g_lm2 lx (by simp only [List.mem_cons, List.mem_nil_iff, true_or, or_true])) (g_lm2 g_lo (by simp only [List.mem_cons, List.mem_nil_iff, true_or, or_true])))
    refine ⟨_, _, (wkE_upd (t := 11) (v := .arr g_lm 1 0 0) (wkE_upd (t := 10) (v := .arr g_lo 3 0 0) wkE_id rfl (by first | exact Wv.nil _ _ _ _ rfl | (simp (maxDischargeDepth := 8) only [go_sem, cast0, encU, hNE, g_lo3, g_lm3]; exact Wv.nil _ _ _ _ rfl))) rfl (by first | exact Wv.nil _ _ _ _ rfl | (simp (maxDischargeDepth := 8) only [go_sem, cast0, encU, hNE, g_lo3, g_lm3]; exact Wv.nil _ _ _ _ rfl))), (rowsok_cons (rowok_eq (by simp (maxDischargeDepth := 8) only [go_sem, cast0, encU, hNE, g_lo3, g_lm3, List.length_append, List.length_cons, List.length_nil, Nat.zero_add]; first | done | rfl)) (rowsok_cons (rowok_ghost g_lo1) (rowsok_cons (rowok_ghost g_lm1) rowsok_nil))), 0, u, [], [], g_lo, g_lm, (by first | omega | rfl | assumption | (simp (maxDischargeDepth := 8) only [go_sem, cast0, encU, hNE, g_lo3, g_lm3]; first | done | rfl | assumption | omega)), (by first | omega | rfl | assumption | (simp (maxDischargeDepth := 8) only [go_sem, cast0, encU, hNE, g_lo3, g_lm3]; first | done | rfl | assumption | omega)), (by first | omega | rfl | assumption | (simp (maxDischargeDepth := 8) only [go_sem, cast0, encU, hNE, g_lo3, g_lm3]; first | done | rfl | assumption | omega)), ?_, ?_, (by simp (maxDischargeDepth := 8) only [go_sem, cast0, encU, hNE, g_lo3, g_lm3]), (by simp (maxDischargeDepth := 8) only [go_sem, cast0, encU, hNE, g_lo3, g_lm3]), (by simp (maxDischargeDepth := 8) only [go_sem, cast0, encU, hNE, g_lo3, g_lm3]), (by simp (maxDischargeDepth := 8) only [go_sem, cast0, encU, hNE, g_lo3, g_lm3]), (by simp (maxDischargeDepth := 8) only [go_sem, cast0, encU, hNE, g_lo3, g_lm3]), (by simp (maxDischargeDepth := 8) only [go_sem, cast0, encU, hNE, g_lo3, g_lm3]), (by simp (maxDischargeDepth := 8) only [go_sem, cast0, encU, hNE, g_lo3, g_lm3, List.length_append, List.length_cons, List.length_nil, Nat.zero_add]; first | done | rfl), (by simp (maxDischargeDepth := 8) only [go_sem, cast0, encU, hNE, g_lo3, g_lm3, List.length_append, List.length_cons, List.length_nil, Nat.zero_add]; first | done | rfl), (by simp (maxDischargeDepth := 8) only [go_sem, cast0, encU, hNE, g_lo3, g_lm3, List.length_append, List.length_cons, List.length_nil, Nat.zero_add]; first | done | rfl), rfl⟩
    · rfl
    · exact hv
    rintro k0 E0 H0 hfr0 ⟨i, x, es, ms, lo, lm, hk, he, hm, hx1, hv1, d0_0, d0_1, d0_2, d0_3, d0_4, d0_5, h0_34, h0_10, h0_11, rfl⟩
    have e0_4 := hfr0 4 rfl; have e0_5 := hfr0 5 rfl; have e0_6 := hfr0 6 rfl; have e0_9 := hfr0 9 rfl; have e0_32 := hfr0 32 rfl; have e0_33 := hfr0 33 rfl
    simp (maxDischargeDepth := 8) only [go_sem, cast0, encU, hNE] at e0_4 e0_5 e0_6 e0_9 e0_32 e0_33
    clear hfr0
    have d0 := And.intro d0_0 (And.intro d0_1 (And.intro d0_2 (And.intro d0_3 (And.intro d0_4 (d0_5)))))
    simp only [encU]
    by_cases hi : i < l.length
    · obtain ⟨ac, hx, hdr⟩ := at_list hi
      have hlt := lt_int hi
      have hge : (0 : Int) ≤ (i : Int) := by omega
      have hw := wrap_next hi hll
      have hac := hall ac (List.mem_of_getElem? hx)
      have h70 := p70 x ac hv1 hac
      have hv2 := done_valid (a := ac) hv1 hac
      have hok := evOK_done hv1 hac
      have hx2 : evsF u (l.take (i + 1)) = evS (x, es, ms) ac := by
        rw [List.take_add_one, hx, Option.toList_some, evsF, List.foldl_append, List.foldl_cons, List.foldl_nil]
        rw [evsF] at hx1; rw [hx1]
      have hel := evF_len x ac (doneF x ac).1
      have h81 : (doneF x ac).2.status = 0 → PPure Try.prog 81 [encU x, encAc ac, encU (doneF x ac).1] (.list .any ((evF x ac (doneF x ac).1).map encEv)) := fun hst => p81 x _ ac hv1 hv2 (hok hst)
      unfold evS at hx2
      simp only at hx2
      generalize doneF x ac = q at h70 hv2 hx2 hel h81
      by_cases hst : q.2.status = 0
      · have h81' := h81 hst
        rw [if_pos hst] at hx2
        generalize evF x ac q.1 = ev at h81' hx2 hel
        have est : decide (q.2.status = 0) = true := by simp [hst]
        simp only [encU, encAc, encAn] at h70 h81'
        (have hA := And.intro e0_4 (And.intro e0_5 (And.intro e0_6 (And.intro e0_9 (And.intro e0_32 (And.intro e0_33 (And.intro h0_34 (And.intro h0_10 (And.intro h0_11 (And.intro d0 (And.intro hlt (And.intro hge (And.intro hx (est))))))))))))); have hP := And.intro h70 (And.intro h81' (True.intro)); have hNE := True.intro; have hC := True.intro; repeat' first
            | ((with_reducible apply te_drwH lo lm); (focus (simp (maxDischargeDepth := 8) only [effFl, List.map_cons, List.map_nil]; exact rfl)); (focus decide +kernel))
            | with_reducible first | refine k_seq ?_ | refine t_seq ?_ | refine t_reg ?_ | refine t_nil ?_ | refine t_skip ?_ | refine k_blk ?_ | refine t_block ?_ | refine m_nil ?_
            | refine ae_val ?_
            | refine ae_callS ?_
            | refine be_val ?_
            | ((with_reducible apply me_appendQ); (with_reducible exact app_81; with_reducible exact c_3); (focus (simp (maxDischargeDepth := 8) only [go_sem, hNE, hA]; first | done | exact rfl)); (focus (simp (maxDischargeDepth := 8) only [go_sem, hNE, hA]; first | done | exact rfl)); (focus (simp (maxDischargeDepth := 8) only [go_sem, hNE, hA]; first | done | exact rfl)); (focus (simp (maxDischargeDepth := 8) only [go_sem, hNE, hA, roomB, List.length_take, List.length_append]; first | done | omega)); (focus (simp (maxDischargeDepth := 8) only [go_sem, hNE, hA]; first | done | exact rfl)); (focus (simp (maxDischargeDepth := 8) only [go_sem, hNE, hA]; done)); (focus (simp (maxDischargeDepth := 8) only [go_sem, hNE, hA, roomB, List.length_take, List.length_append]; first | done | omega)); (intro la ha; have hn1 := or_ne ha; have hNE := And.intro hNE hn1))
            | (refine ae_alloc ?_; intro la ha hn1; have hNE := And.intro hNE hn1)
            | refine ae_store ?_
            | ((with_reducible apply te_appendB); (with_reducible exact app_67; with_reducible exact c_71); (focus (simp (maxDischargeDepth := 8) only [go_sem, hNE, hA]; first | done | exact rfl)); (focus (simp (maxDischargeDepth := 8) only [go_sem, hNE, hA]; first | done | exact rfl)); (focus (simp (maxDischargeDepth := 8) only [go_sem, hNE, hA, roomB, List.length_take, List.length_append]; first | done | omega)); (focus (simp (maxDischargeDepth := 8) only [go_sem, hNE, hA]; first | done | exact rfl)); (focus (simp (maxDischargeDepth := 8) only [go_sem, hNE, hA]; done)); (focus (simp (maxDischargeDepth := 8) only [go_sem, hNE, hA, roomB, List.length_take, List.length_append]; first | done | omega)); (intro la ha hn1; have hNE := And.intro hNE hn1))
            | refine be_store ?_
            | refine a_cond ?_ ?_
            | (with_reducible intro hc; with_reducible exact Bool.noConfusion hc)
            | (with_reducible intro hc; have hC := And.intro hC hc))
        rename_i lo2 _ _ _
        refine k_invX (k0 - 1) (by omega) ?_
        intro Ng
        refine ⟨_, _, wkE_id, (rowsok_cons (rowok_eq (by simp (maxDischargeDepth := 8) only [go_sem, e0_4, e0_5, e0_6, e0_9, e0_32, e0_33, h0_34, h0_10, h0_11, d0, hw, encU, encI, List.map_append, Int.natCast_add, hNE, List.length_append, List.length_cons, List.length_nil, Nat.zero_add]; first | done | rfl)) (rowsok_cons (rowok_eq (by simp (maxDischargeDepth := 8) only [go_sem, e0_4, e0_5, e0_6, e0_9, e0_32, e0_33, h0_34, h0_10, h0_11, d0, hw, encU, encI, List.map_append, Int.natCast_add, hNE, List.length_append, List.length_cons, List.length_nil, Nat.zero_add]; first | done | rfl)) (rowsok_cons (rowok_eq (by simp (maxDischargeDepth := 8) only [go_sem, e0_4, e0_5, e0_6, e0_9, e0_32, e0_33, h0_34, h0_10, h0_11, d0, hw, encU, encI, List.map_append, Int.natCast_add, hNE, List.length_append, List.length_cons, List.length_nil, Nat.zero_add]; first | done | rfl)) rowsok_nil))), i + 1, q.1, es ++ ev, ms ++ [((es ++ ev).length : Int)], lo2, la, (by first | omega | (simp only [List.length_append, List.length_cons, List.length_nil, List.length_drop, List.length_take, List.length_map]; omega)), (by first | omega | (simp only [List.length_append, List.length_cons, List.length_nil, List.length_drop, List.length_take, List.length_map]; omega)), (by first | omega | (simp only [List.length_append, List.length_cons, List.length_nil, List.length_drop, List.length_take, List.length_map]; omega)), ?_, ?_, (by simp (maxDischargeDepth := 8) only [go_sem, e0_4, e0_5, e0_6, e0_9, e0_32, e0_33, h0_34, h0_10, h0_11, d0, hw, encU, encI, List.map_append, Int.natCast_add, hNE]), (by simp (maxDischargeDepth := 8) only [go_sem, e0_4, e0_5, e0_6, e0_9, e0_32, e0_33, h0_34, h0_10, h0_11, d0, hw, encU, encI, List.map_append, Int.natCast_add, hNE]), (by simp (maxDischargeDepth := 8) only [go_sem, e0_4, e0_5, e0_6, e0_9, e0_32, e0_33, h0_34, h0_10, h0_11, d0, hw, encU, encI, List.map_append, Int.natCast_add, hNE]), (by simp (maxDischargeDepth := 8) only [go_sem, e0_4, e0_5, e0_6, e0_9, e0_32, e0_33, h0_34, h0_10, h0_11, d0, hw, encU, encI, List.map_append, Int.natCast_add, hNE]), (by simp (maxDischargeDepth := 8) only [go_sem, e0_4, e0_5, e0_6, e0_9, e0_32, e0_33, h0_34, h0_10, h0_11, d0, hw, encU, encI, List.map_append, Int.natCast_add, hNE]), (by simp (maxDischargeDepth := 8) only [go_sem, e0_4, e0_5, e0_6, e0_9, e0_32, e0_33, h0_34, h0_10, h0_11, d0, hw, encU, encI, List.map_append, Int.natCast_add, hNE]), (by simp (maxDischargeDepth := 8) only [go_sem, e0_4, e0_5, e0_6, e0_9, e0_32, e0_33, h0_34, h0_10, h0_11, d0, hw, encU, encI, List.map_append, Int.natCast_add, hNE, List.length_append, List.length_cons, List.length_nil, Nat.zero_add]; first | done | rfl), (by simp (maxDischargeDepth := 8) only [go_sem, e0_4, e0_5, e0_6, e0_9, e0_32, e0_33, h0_34, h0_10, h0_11, d0, hw, encU, encI, List.map_append, Int.natCast_add, hNE, List.length_append, List.length_cons, List.length_nil, Nat.zero_add]; first | done | rfl), (by simp (maxDischargeDepth := 8) only [go_sem, e0_4, e0_5, e0_6, e0_9, e0_32, e0_33, h0_34, h0_10, h0_11, d0, hw, encU, encI, List.map_append, Int.natCast_add, hNE, List.length_append, List.length_cons, List.length_nil, Nat.zero_add]; first | done | rfl), rfl⟩
        · exact hx2
        · exact hv2
      · rw [if_neg hst] at hx2
        have est : decide (q.2.status = 0) = false := by simp [hst]
        simp only [encU, encAc, encAn] at h70
        (have hA := And.intro e0_4 (And.intro e0_5 (And.intro e0_6 (And.intro e0_9 (And.intro e0_32 (And.intro e0_33 (And.intro h0_34 (And.intro h0_10 (And.intro h0_11 (And.intro d0 (And.intro hlt (And.intro hge (And.intro hx (est))))))))))))); have hP := And.intro h70 (True.intro); have hNE := True.intro; have hC := True.intro; repeat' first
            | ((with_reducible apply te_drwH lo lm); (focus (simp (maxDischargeDepth := 8) only [effFl, List.map_cons, List.map_nil]; exact rfl)); (focus decide +kernel))
            | with_reducible first | refine k_seq ?_ | refine t_seq ?_ | refine t_reg ?_ | refine t_nil ?_ | refine t_skip ?_ | refine k_blk ?_ | refine t_block ?_ | refine m_nil ?_
            | refine ae_val ?_
            | refine ae_callS ?_
            | refine be_val ?_
            | ((with_reducible apply me_appendQ); (with_reducible exact app_81; with_reducible exact c_3); (focus (simp (maxDischargeDepth := 8) only [go_sem, hNE, hA]; first | done | exact rfl)); (focus (simp (maxDischargeDepth := 8) only [go_sem, hNE, hA]; first | done | exact rfl)); (focus (simp (maxDischargeDepth := 8) only [go_sem, hNE, hA]; first | done | exact rfl)); (focus (simp (maxDischargeDepth := 8) only [go_sem, hNE, hA, roomB, List.length_take, List.length_append]; first | done | omega)); (focus (simp (maxDischargeDepth := 8) only [go_sem, hNE, hA]; first | done | exact rfl)); (focus (simp (maxDischargeDepth := 8) only [go_sem, hNE, hA]; done)); (focus (simp (maxDischargeDepth := 8) only [go_sem, hNE, hA, roomB, List.length_take, List.length_append]; first | done | omega)); (intro la ha; have hn1 := or_ne ha; have hNE := And.intro hNE hn1))
            | (refine ae_alloc ?_; intro la ha hn1; have hNE := And.intro hNE hn1)
            | refine ae_store ?_
            | refine be_store ?_
            | refine a_cond ?_ ?_
            | (with_reducible intro hc; with_reducible exact Bool.noConfusion hc)
            | (with_reducible intro hc; have hC := And.intro hC hc))
        refine k_invX (k0 - 1) (by omega) ?_
        intro Ng
        refine ⟨_, _, wkE_id, (rowsok_cons (rowok_eq (by simp (maxDischargeDepth := 8) only [go_sem, e0_4, e0_5, e0_6, e0_9, e0_32, e0_33, h0_34, h0_10, h0_11, d0, hw, encU, encI, List.map_append, hNE, List.length_append, List.length_cons, List.length_nil, Nat.zero_add]; first | done | rfl)) (rowsok_cons (rowok_eq (by simp (maxDischargeDepth := 8) only [go_sem, e0_4, e0_5, e0_6, e0_9, e0_32, e0_33, h0_34, h0_10, h0_11, d0, hw, encU, encI, List.map_append, hNE, List.length_append, List.length_cons, List.length_nil, Nat.zero_add]; first | done | rfl)) (rowsok_cons (rowok_eq (by simp (maxDischargeDepth := 8) only [go_sem, e0_4, e0_5, e0_6, e0_9, e0_32, e0_33, h0_34, h0_10, h0_11, d0, hw, encU, encI, List.map_append, hNE, List.length_append, List.length_cons, List.length_nil, Nat.zero_add]; first | done | rfl)) rowsok_nil))), i + 1, q.1, es, ms ++ [(es.length : Int)], lo, la, (by first | omega | (simp only [List.length_append, List.length_cons, List.length_nil, List.length_drop, List.length_take, List.length_map]; omega)), (by first | omega | (simp only [List.length_append, List.length_cons, List.length_nil, List.length_drop, List.length_take, List.length_map]; omega)), (by first | omega | (simp only [List.length_append, List.length_cons, List.length_nil, List.length_drop, List.length_take, List.length_map]; omega)), ?_, ?_, (by simp (maxDischargeDepth := 8) only [go_sem, e0_4, e0_5, e0_6, e0_9, e0_32, e0_33, h0_34, h0_10, h0_11, d0, hw, encU, encI, List.map_append, hNE]), (by simp (maxDischargeDepth := 8) only [go_sem, e0_4, e0_5, e0_6, e0_9, e0_32, e0_33, h0_34, h0_10, h0_11, d0, hw, encU, encI, List.map_append, hNE]), (by simp (maxDischargeDepth := 8) only [go_sem, e0_4, e0_5, e0_6, e0_9, e0_32, e0_33, h0_34, h0_10, h0_11, d0, hw, encU, encI, List.map_append, hNE]), (by simp (maxDischargeDepth := 8) only [go_sem, e0_4, e0_5, e0_6, e0_9, e0_32, e0_33, h0_34, h0_10, h0_11, d0, hw, encU, encI, List.map_append, hNE]), (by simp (maxDischargeDepth := 8) only [go_sem, e0_4, e0_5, e0_6, e0_9, e0_32, e0_33, h0_34, h0_10, h0_11, d0, hw, encU, encI, List.map_append, hNE]), (by simp (maxDischargeDepth := 8) only [go_sem, e0_4, e0_5, e0_6, e0_9, e0_32, e0_33, h0_34, h0_10, h0_11, d0, hw, encU, encI, List.map_append, hNE]), (by simp (maxDischargeDepth := 8) only [go_sem, e0_4, e0_5, e0_6, e0_9, e0_32, e0_33, h0_34, h0_10, h0_11, d0, hw, encU, encI, List.map_append, hNE, List.length_append, List.length_cons, List.length_nil, Nat.zero_add]; first | done | rfl), (by simp (maxDischargeDepth := 8) only [go_sem, e0_4, e0_5, e0_6, e0_9, e0_32, e0_33, h0_34, h0_10, h0_11, d0, hw, encU, encI, List.map_append, hNE, List.length_append, List.length_cons, List.length_nil, Nat.zero_add]; first | done | rfl), (by simp (maxDischargeDepth := 8) only [go_sem, e0_4, e0_5, e0_6, e0_9, e0_32, e0_33, h0_34, h0_10, h0_11, d0, hw, encU, encI, List.map_append, hNE, List.length_append, List.length_cons, List.length_nil, Nat.zero_add]; first | done | rfl), rfl⟩
        · exact hx2
        · exact hv2
    · have hlt := nlt_int hi
      have hil : i = l.length := by omega
      rw [hil, List.take_length] at hx1
      rw [hx1]
      (have hA := And.intro e0_4 (And.intro e0_5 (And.intro e0_6 (And.intro e0_9 (And.intro e0_32 (And.intro e0_33 (And.intro h0_34 (And.intro h0_10 (And.intro h0_11 (And.intro d0 (hlt)))))))))); have hP := True.intro; have hNE := True.intro; have hC := True.intro; repeat' first
          | with_reducible first | refine k_seq ?_ | refine t_seq ?_ | refine t_reg ?_ | refine t_nil ?_ | refine t_ret ?_ | refine t_exit ?_ | refine k_seq_exit ?_ | refine k_blk_exit ?_ | refine k_invX_exit ?_
          | refine ae_val ?_
          | refine a_cond ?_ ?_
          | (with_reducible intro hc; with_reducible exact Bool.noConfusion hc)
          | (with_reducible intro hc; have hC := And.intro hC hc))
      (first | apply pend rs41 | apply pendN rs41); (focus (simp (maxDischargeDepth := 8) only [hNE, go_sem, e0_4, e0_5, e0_6, e0_9, e0_32, e0_33, h0_34, h0_10, h0_11, d0]; first | done | exact rfl)); (focus (simp (maxDischargeDepth := 8) only [hNE, go_sem, e0_4, e0_5, e0_6, e0_9, e0_32, e0_33, h0_34, h0_10, h0_11, d0]; first | done | exact rfl))
  · have ez := dnz1 hz
    have hs : eofF u l = (([], []), orE [unitE u, (actsE l).2]) := by rw [eofF, if_neg hz]
    rw [hs]
    simp only [encU, List.map_nil] at h1 ⊢
    (refine ppure_of_T ok41 (by simp only [List.length_cons, List.length_nil]; decide) ?_; refine t_seq ?_)
    (have hA := ez; have hP := And.intro h1 (And.intro h2 (And.intro h3 (True.intro))); have hNE := True.intro; have hC := True.intro; repeat' first
        | with_reducible first | refine k_seq ?_ | refine t_seq ?_ | refine t_reg ?_ | refine t_nil ?_ | refine t_ret ?_ | refine k_seq_ret ?_
        | refine ae_val ?_
        | refine ae_callS ?_
        | refine ae_box ?_
        | refine a_cond ?_ ?_
        | (with_reducible intro hc; with_reducible exact Bool.noConfusion hc)
        | (with_reducible intro hc; have hC := And.intro hC hc))
    (first | apply pend rs41 | apply pendN rs41); (focus (simp (maxDischargeDepth := 8) only [hNE, go_sem]; first | done | exact rfl)); (focus (simp (maxDischargeDepth := 8) only [hNE, go_sem]; first | done | exact rfl))
end Go.Proofs.Ythdgdngdfijfhaa
namespace Go.Proofs.Ythdgdngdfijfhaa
open Go.RowKit Go.Proofs
set_option linter.unusedVariables false
set_option linter.unusedSimpArgs false
attribute [local irreducible] PPure CallN Tops TopsDm T
def ev1 (x : Ev) : Int := rfs (!btw x.kind 0 2) 15
def ev2B (x : Ev) : Bool := (decide (x.kind = 0) == (x.bytes == [])) || (decide (x.kind = 2) && decide (¬ x.pos = 0))
def ev2 (x : Ev) : Int := rfs (ev2B x) 3
def ev3 (n : Nat) (x : Ev) : Int := rfs (!btw x.pos 0 n) 2
def evE (n : Nat) (x : Ev) : Int := orE [ev1 x, ev2 x, ev3 n x]
def sizeN (n : Nat) (x : Ev) : Nat := if x.kind = 0 then max n (x.pos.toNat + x.bytes.length) else if x.kind = 1 then x.pos.toNat else n
def sizeF (n : Nat) (x : Ev) : Nat × Int := if evE n x = 0 then (sizeN n x, rfs (decide (20000 < sizeN n x)) 8) else (0, evE n x)
theorem evE_zero {n : Nat} {x : Ev} (h : evE n x = 0) : (0 ≤ x.kind ∧ x.kind ≤ 2) ∧ ev2B x = false ∧ 0 ≤ x.pos ∧ x.pos ≤ n := by
  rw [evE, orE_zero] at h
  have h1 := h _ List.mem_cons_self
  have h2 := h _ (List.mem_cons_of_mem _ List.mem_cons_self)
  have h3 := h _ (List.mem_cons_of_mem _ (List.mem_cons_of_mem _ List.mem_cons_self))
  rw [ev1, rfs_zero (by decide)] at h1
  rw [ev2, rfs_zero (by decide)] at h2
  rw [ev3, rfs_zero (by decide)] at h3
  simp at h1 h3
  rw [btw_true] at h1 h3
  exact ⟨h1, h2, h3⟩
attribute [local go_sem] pvMinMax Int.natCast_zero in
set_option maxHeartbeats 2000000 in
theorem p76 (n : Nat) (x : Ev) (hn : n ≤ 20000) (hb : x.bytes.length ≤ 140737488355328) : PPure Try.prog 76 [.int .i64 (n : Int), encEv x] (.tup [.int .i64 ((sizeF n x).1 : Int), .int .i64 (sizeF n x).2]) := by
  have h1 : PPure Try.prog 58 [.int .i64 x.kind, .int .i64 0, .int .i64 2] (.bool (btw x.kind 0 2)) := p58 x.kind 0 2
  have h2 : PPure Try.prog 56 [.bool (!btw x.kind 0 2), .int .i64 15] (.int .i64 (ev1 x)) := p56 (!btw x.kind 0 2) 15
  have h3 : PPure Try.prog 56 [.bool (ev2B x), .int .i64 3] (.int .i64 (ev2 x)) := p56 (ev2B x) 3
  have h4 : PPure Try.prog 58 [.int .i64 x.pos, .int .i64 0, .int .i64 (n : Int)] (.bool (btw x.pos 0 n)) := p58 x.pos 0 n
  have h5 : PPure Try.prog 56 [.bool (!btw x.pos 0 n), .int .i64 2] (.int .i64 (ev3 n x)) := p56 (!btw x.pos 0 n) 2
  have h6 := p54_3 (ev1 x) (ev2 x) (ev3 n x)
  by_cases hz : evE n x = 0
  · have ez : decide (¬ orE [ev1 x, ev2 x, ev3 n x] = 0) = false := dnz0 hz
    obtain ⟨hk, hb2, hp0, hp1⟩ := evE_zero hz
    have hs : sizeF n x = (sizeN n x, rfs (decide (20000 < sizeN n x)) 8) := by rw [sizeF, if_pos hz]
    have h7 := p56 (decide (20000 < sizeN n x)) 8
    have e7 : decide ((20000 : Int) < (sizeN n x : Int)) = decide (20000 < sizeN n x) := by simp only [decide_eq_decide]; omega
    rw [hs]
    obtain ⟨p, hp⟩ : ∃ p : Nat, x.pos = (p : Int) := ⟨x.pos.toNat, by omega⟩
    have hpn : x.pos.toNat = p := by omega
    generalize rfs (decide (20000 < sizeN n x)) 8 = r7 at h7 ⊢
    have cases3 : x.kind = 0 ∨ x.kind = 1 ∨ x.kind = 2 := by omega
    simp only [encEv] at h1 h2 h3 h4 h5 h6 ⊢
    rcases cases3 with hk0 | hk0 | hk0
    · have sn : sizeN n x = max n (p + x.bytes.length) := by simp [sizeN, hk0, hpn]
      have e3 : ev2B x = (true == (x.bytes == [])) := by simp [ev2B, hk0]
      have mx : (if (n : Int) < ((p + x.bytes.length : Nat) : Int) then ((p + x.bytes.length : Nat) : Int) else (n : Int)) = (sizeN n x : Int) := by rw [sn]; split <;> omega
      have w1 : IntKind.i64.wrap ((p : Int) + (x.bytes.length : Int)) = ((p + x.bytes.length : Nat) : Int) := by rw [IntKind.wrap_i64]; omega
      rw [e3] at h3
      simp only [hk0, hp] at h1 h2 h3 h4 h5 ⊢
      (refine ppure_of_T ok76 (by simp only [List.length_cons, List.length_nil]; decide) ?_; refine t_seq ?_)
      (have hA := And.intro ez (And.intro e7 (And.intro mx (w1))); have hP := And.intro h1 (And.intro h2 (And.intro h3 (And.intro h4 (And.intro h5 (And.intro h6 (And.intro h7 (True.intro))))))); have hNE := True.intro; have hC := True.intro; repeat' first
          | ((with_reducible apply te_drwA); (focus (simp (maxDischargeDepth := 8) only [effFlA, List.map_cons, List.map_nil]; exact rfl)); (focus decide +kernel))
          | with_reducible first | refine k_seq ?_ | refine t_seq ?_ | refine t_reg ?_ | refine t_nil ?_ | refine t_skip ?_ | refine t_ret ?_ | refine k_blk ?_ | refine t_block ?_ | refine m_nil ?_
          | refine ae_val ?_
          | refine ae_callS ?_
          | refine be_val ?_
          | refine be_callS ?_
          | refine be_gval ?_
          | refine be_gno2 ?_
          | refine ae_box ?_
          | refine a_cond ?_ ?_
          | (with_reducible intro hc; with_reducible exact Bool.noConfusion hc)
          | (with_reducible intro hc; have hC := And.intro hC hc))
      (first | apply pend rs76 | apply pendN rs76); (focus (simp (maxDischargeDepth := 8) only [hNE, go_sem]; first | done | exact rfl)); (focus (simp (maxDischargeDepth := 8) only [hNE, go_sem]; first | done | exact rfl))
    · have sn : sizeN n x = p := by simp [sizeN, hk0, hpn]
      have e3 : ev2B x = (false == (x.bytes == [])) := by simp [ev2B, hk0]
      rw [e3] at h3
      rw [sn] at h7 e7 ⊢
      simp only [hk0, hp] at h1 h2 h3 h4 h5 ⊢
      (refine ppure_of_T ok76 (by simp only [List.length_cons, List.length_nil]; decide) ?_; refine t_seq ?_)
      (have hA := And.intro ez (e7); have hP := And.intro h1 (And.intro h2 (And.intro h3 (And.intro h4 (And.intro h5 (And.intro h6 (And.intro h7 (True.intro))))))); have hNE := True.intro; have hC := True.intro; repeat' first
          | ((with_reducible apply te_drwA); (focus (simp (maxDischargeDepth := 8) only [effFlA, List.map_cons, List.map_nil]; exact rfl)); (focus decide +kernel))
          | with_reducible first | refine k_seq ?_ | refine t_seq ?_ | refine t_reg ?_ | refine t_nil ?_ | refine t_skip ?_ | refine t_ret ?_ | refine k_blk ?_ | refine t_block ?_ | refine m_nil ?_
          | refine ae_val ?_
          | refine ae_callS ?_
          | refine be_val ?_
          | refine be_callS ?_
          | refine be_gval ?_
          | refine be_gno2 ?_
          | refine ae_box ?_
          | refine a_cond ?_ ?_
          | (with_reducible intro hc; with_reducible exact Bool.noConfusion hc)
          | (with_reducible intro hc; have hC := And.intro hC hc))
      (first | apply pend rs76 | apply pendN rs76); (focus (simp (maxDischargeDepth := 8) only [hNE, go_sem]; first | done | exact rfl)); (focus (simp (maxDischargeDepth := 8) only [hNE, go_sem]; first | done | exact rfl))
    · have sn : sizeN n x = n := by simp [sizeN, hk0]
      have e3 : ev2B x = ((false == (x.bytes == [])) || decide (¬ x.pos = 0)) := by simp [ev2B, hk0]
      rw [e3] at h3
      rw [sn] at h7 e7 ⊢
      simp only [hk0, hp] at h1 h2 h3 h4 h5 ⊢
      (refine ppure_of_T ok76 (by simp only [List.length_cons, List.length_nil]; decide) ?_; refine t_seq ?_)
      (have hA := And.intro ez (e7); have hP := And.intro h1 (And.intro h2 (And.intro h3 (And.intro h4 (And.intro h5 (And.intro h6 (And.intro h7 (True.intro))))))); have hNE := True.intro; have hC := True.intro; repeat' first
          | ((with_reducible apply te_drwA); (focus (simp (maxDischargeDepth := 8) only [effFlA, List.map_cons, List.map_nil]; exact rfl)); (focus decide +kernel))
          | with_reducible first | refine k_seq ?_ | refine t_seq ?_ | refine t_reg ?_ | refine t_nil ?_ | refine t_skip ?_ | refine t_ret ?_ | refine k_blk ?_ | refine t_block ?_ | refine m_nil ?_
          | refine ae_val ?_
          | refine ae_callS ?_
          | refine be_val ?_
          | refine be_callS ?_
          | refine be_gval ?_
          | refine be_gval2 ?_
          | refine ae_box ?_
          | refine a_cond ?_ ?_
          | (with_reducible intro hc; with_reducible exact Bool.noConfusion hc)
          | (with_reducible intro hc; have hC := And.intro hC hc))
      (first | apply pend rs76 | apply pendN rs76); (focus (simp (maxDischargeDepth := 8) only [hNE, go_sem]; first | done | exact rfl)); (focus (simp (maxDischargeDepth := 8) only [hNE, go_sem]; first | done | exact rfl))
  · have ez : decide (¬ orE [ev1 x, ev2 x, ev3 n x] = 0) = true := dnz1 hz
    have hs : sizeF n x = (0, evE n x) := by rw [sizeF, if_neg hz]
    rw [hs]
    unfold ev2B at h3
    simp only [encEv, evE] at h1 h2 h3 h4 h5 h6 ⊢
    (refine ppure_of_T ok76 (by simp only [List.length_cons, List.length_nil]; decide) ?_; refine t_seq ?_)
    (have hA := ez; have hP := And.intro h1 (And.intro h2 (And.intro h3 (And.intro h4 (And.intro h5 (And.intro h6 (True.intro)))))); have hNE := True.intro; have hC := True.intro; repeat' first
        | ((with_reducible apply te_drwA); (focus (simp (maxDischargeDepth := 8) only [effFlA, List.map_cons, List.map_nil]; exact rfl)); (focus decide +kernel))
        | with_reducible first | refine k_seq ?_ | refine t_seq ?_ | refine t_reg ?_ | refine t_nil ?_ | refine t_ret ?_ | refine k_seq_ret ?_ | refine m_nil ?_
        | refine ae_val ?_
        | refine be_val ?_
        | refine be_callS ?_
        | refine be_gval ?_
        | refine be_gval2 ?_
        | refine ae_box ?_
        | refine a_cond ?_ ?_
        | (with_reducible intro hc; with_reducible exact Bool.noConfusion hc)
        | (with_reducible intro hc; have hC := And.intro hC hc))
    (first | apply pend rs76 | apply pendN rs76); (focus (simp (maxDischargeDepth := 8) only [hNE, go_sem, Int.natCast_zero]; first | done | exact rfl)); (focus (simp (maxDischargeDepth := 8) only [hNE, go_sem, Int.natCast_zero]; first | done | exact rfl))
end Go.Proofs.Ythdgdngdfijfhaa
namespace Go.Proofs.Ythdgdngdfijfhaa
open Go.RowKit Go.Proofs
set_option linter.unusedVariables false
set_option linter.unusedSimpArgs false
attribute [local irreducible] PPure CallN Tops TopsDm T
def chkL : List Ev → Nat → Nat → Nat × Int
  | [], i, _ => (i, 0)
  | x :: r, i, n => if (sizeF n x).2 = 0 then chkL r (i + 1) (sizeF n x).1 else (i, (sizeF n x).2)
def chkF (s : List UInt8) (l : List Ev) : Nat × Int := if 20000 < s.length ∨ 300 < l.length then (0, 8) else chkL l 0 s.length
theorem sizeF_le {n : Nat} {x : Ev} (h : (sizeF n x).2 = 0) : evE n x = 0 ∧ (sizeF n x).1 = sizeN n x ∧ sizeN n x ≤ 20000 := by
  unfold sizeF at h ⊢
  split
  · rename_i hz
    rw [if_pos hz] at h
    rw [rfs_zero (by decide)] at h
    simp at h
    exact ⟨hz, rfl, h⟩
  · rename_i hz
    rw [if_neg hz] at h
    exact absurd h hz
attribute [local go_sem] encEv Int.toNat_natCast List.getElem?_map Option.map_some in
set_option maxHeartbeats 2000000 in
theorem p33 (s : List UInt8) (l : List Ev) (hs : s.length ≤ 140737488355328) (hl : l.length ≤ 1000) (hb : ∀ x ∈ l, x.bytes.length ≤ 140737488355328) :
    PPure Try.prog 33 [.str s, .list .any (l.map encEv)] (.tup [.int .i64 ((chkF s l).1 : Int), .int .i64 (chkF s l).2]) := by
  by_cases h1 : 20000 < s.length
  · have e0 : chkF s l = (0, 8) := by simp [chkF, h1]
    have e1 : decide ((20000 : Int) < (s.length : Int)) = true := by simp; omega
    rw [e0]
    (refine ppure_of_T ok33 (by simp only [List.length_cons, List.length_nil]; decide) ?_; refine t_seq ?_)
    (have hA := e1; have hP := True.intro; have hNE := True.intro; have hC := True.intro; repeat' first
        | with_reducible first | refine k_seq ?_ | refine t_seq ?_ | refine t_reg ?_ | refine t_nil ?_ | refine t_ret ?_ | refine k_seq_ret ?_
        | refine ae_val ?_
        | refine ae_gval ?_
        | refine a_cond ?_ ?_
        | (with_reducible intro hc; with_reducible exact Bool.noConfusion hc)
        | (with_reducible intro hc; have hC := And.intro hC hc))
    (first | apply pend rs33 | apply pendN rs33); (focus (simp only [go_sem, Int.natCast_zero]; first | done | exact rfl)); (focus (simp only [go_sem, Int.natCast_zero]; first | done | exact rfl))
  have e1 : decide ((20000 : Int) < (s.length : Int)) = false := by simp; omega
  by_cases h2 : 300 < l.length
  · have e0 : chkF s l = (0, 8) := by simp [chkF, h2]
    have e2 : decide ((300 : Int) < (l.length : Int)) = true := by simp; omega
    rw [e0]
    (refine ppure_of_T ok33 (by simp only [List.length_cons, List.length_nil]; decide) ?_; refine t_seq ?_)
    (have hA := And.intro e1 (e2); have hP := True.intro; have hNE := True.intro; have hC := True.intro; repeat' first
        | with_reducible first | refine k_seq ?_ | refine t_seq ?_ | refine t_reg ?_ | refine t_nil ?_ | refine t_ret ?_ | refine k_seq_ret ?_
        | refine ae_val ?_
        | refine ae_gval ?_
        | refine a_cond ?_ ?_
        | (with_reducible intro hc; with_reducible exact Bool.noConfusion hc)
        | (with_reducible intro hc; have hC := And.intro hC hc))
    (first | apply pend rs33 | apply pendN rs33); (focus (simp only [go_sem, Int.natCast_zero]; first | done | exact rfl)); (focus (simp only [go_sem, Int.natCast_zero]; first | done | exact rfl))
  have e2 : decide ((300 : Int) < (l.length : Int)) = false := by simp; omega
  have e0 : chkF s l = chkL l 0 s.length := by simp [chkF, h1, h2]
  obtain ⟨R, hR⟩ : ∃ R, chkL l 0 s.length = R := ⟨_, rfl⟩
  rw [e0, hR]
  (refine ppure_of_T ok33 (by simp only [List.length_cons, List.length_nil]; decide) ?_; refine t_seq ?_)
  (have hA := And.intro e1 (e2); have hP := True.intro; have hNE := True.intro; have hC := True.intro; repeat' first
      | with_reducible first | refine k_seq ?_ | refine t_seq ?_ | refine t_reg ?_ | refine t_nil ?_ | refine t_skip ?_ | refine t_block ?_
      | refine ae_val ?_
      | refine ae_gval ?_
      | refine a_cond ?_ ?_
      | (with_reducible intro hc; with_reducible exact Bool.noConfusion hc)
      | (with_reducible intro hc; have hC := And.intro hC hc))
  refine t_loopX (fun (k0 : Nat) (E0 : Nat → PV) (H0 : Hp) => ∃ (i : Nat) (n : Nat), i + k0 = l.length ∧ n ≤ 20000 ∧ chkL (l.drop i) i n = R ∧ E0 23 = .int .i64 (i : Int) ∧ E0 6 = .int .i64 (n : Int) ∧ E0 4 = .int .i64 0 ∧ E0 5 = .int .i64 0 ∧ H0 = hp []) (l.length) ?_ ?_
  intro Ng
  refine ⟨_, _, wkE_id, rowsok_nil, 0, s.length, (by first | omega | rfl | assumption | (simp (maxDischargeDepth := 8) only [go_sem, Int.natCast_zero, hNE]; first | done | rfl | assumption | omega)), (by first | omega | rfl | assumption | (simp (maxDischargeDepth := 8) only [go_sem, Int.natCast_zero, hNE]; first | done | rfl | assumption | omega)), ?_, (by simp (maxDischargeDepth := 8) only [go_sem, Int.natCast_zero, hNE, List.length_append, List.length_cons, List.length_nil, Nat.zero_add]; first | done | rfl), (by simp (maxDischargeDepth := 8) only [go_sem, Int.natCast_zero, hNE, List.length_append, List.length_cons, List.length_nil, Nat.zero_add]; first | done | rfl), (by simp (maxDischargeDepth := 8) only [go_sem, Int.natCast_zero, hNE, List.length_append, List.length_cons, List.length_nil, Nat.zero_add]; first | done | rfl), (by simp (maxDischargeDepth := 8) only [go_sem, Int.natCast_zero, hNE, List.length_append, List.length_cons, List.length_nil, Nat.zero_add]; first | done | rfl), rfl⟩
  · exact hR
  rintro k0 E0 H0 hfr0 ⟨i, n, hk, hn, hr, h0_23, h0_6, h0_4, h0_5, rfl⟩
  have e0_1 := hfr0 1 rfl; have e0_21 := hfr0 21 rfl; have e0_22 := hfr0 22 rfl
  simp (maxDischargeDepth := 8) only [go_sem, Int.natCast_zero, hNE] at e0_1 e0_21 e0_22
  clear hfr0
  by_cases hi : i < l.length
  · obtain ⟨x, hx, hdr⟩ := at_list hi
    have hlt := lt_int hi
    have hw := wrap_next hi hl
    have hge : (0 : Int) ≤ (i : Int) := by omega
    have h76 := p76 n x hn (hb x (List.mem_of_getElem? hx))
    rw [hdr, chkL] at hr
    by_cases hz : (sizeF n x).2 = 0
    · have hle := sizeF_le hz
      rw [if_pos hz] at hr
      generalize sizeF n x = q at h76 hr hz hle
      have hq : q.1 ≤ 20000 := by omega
      have ez : decide (¬ q.2 = 0) = false := dnz0 hz
      simp only [encEv] at h76
      (have hA := And.intro e0_1 (And.intro e0_21 (And.intro e0_22 (And.intro h0_23 (And.intro h0_6 (And.intro h0_4 (And.intro h0_5 (And.intro hlt (And.intro hge (And.intro hx (ez)))))))))); have hP := And.intro h76 (True.intro); have hNE := True.intro; have hC := True.intro; repeat' first
          | with_reducible first | refine k_seq ?_ | refine t_seq ?_ | refine t_reg ?_ | refine t_nil ?_ | refine t_skip ?_ | refine k_blk ?_ | refine t_block ?_
          | refine ae_val ?_
          | refine ae_callS ?_
          | (refine ae_alloc ?_; intro la ha hn1; have hNE := And.intro hNE hn1)
          | refine ae_store ?_
          | refine a_cond ?_ ?_
          | (with_reducible intro hc; with_reducible exact Bool.noConfusion hc)
          | (with_reducible intro hc; have hC := And.intro hC hc))
      refine k_invX (k0 - 1) (by omega) ?_
      intro Ng
      refine ⟨_, _, wkE_id, rowsok_nil, i + 1, q.1, (by first | omega | (simp only [List.length_append, List.length_cons, List.length_nil, List.length_drop, List.length_take, List.length_map]; omega)), (by first | omega | (simp only [List.length_append, List.length_cons, List.length_nil, List.length_drop, List.length_take, List.length_map]; omega)), ?_, (by simp (maxDischargeDepth := 8) only [go_sem, e0_1, e0_21, e0_22, h0_23, h0_6, h0_4, h0_5, hw, hNE, List.length_append, List.length_cons, List.length_nil, Nat.zero_add]; first | done | rfl), (by simp (maxDischargeDepth := 8) only [go_sem, e0_1, e0_21, e0_22, h0_23, h0_6, h0_4, h0_5, hw, hNE, List.length_append, List.length_cons, List.length_nil, Nat.zero_add]; first | done | rfl), (by simp (maxDischargeDepth := 8) only [go_sem, e0_1, e0_21, e0_22, h0_23, h0_6, h0_4, h0_5, hw, hNE, List.length_append, List.length_cons, List.length_nil, Nat.zero_add]; first | done | rfl), (by simp (maxDischargeDepth := 8) only [go_sem, e0_1, e0_21, e0_22, h0_23, h0_6, h0_4, h0_5, hw, hNE, List.length_append, List.length_cons, List.length_nil, Nat.zero_add]; first | done | rfl), rfl⟩
      exact hr
    · rw [if_neg hz] at hr
      generalize sizeF n x = q at h76 hr hz
      have ez : decide (¬ q.2 = 0) = true := dnz1 hz
      simp only [encEv] at h76
      subst hr
      (have hA := And.intro e0_1 (And.intro e0_21 (And.intro e0_22 (And.intro h0_23 (And.intro h0_6 (And.intro h0_4 (And.intro h0_5 (And.intro hlt (And.intro hge (And.intro hx (ez)))))))))); have hP := And.intro h76 (True.intro); have hNE := True.intro; have hC := True.intro; repeat' first
          | with_reducible first | refine k_seq ?_ | refine t_seq ?_ | refine t_reg ?_ | refine t_nil ?_ | refine t_skip ?_ | refine t_ret ?_ | refine k_seq_ret ?_ | refine k_blk_ret ?_ | refine k_invX_ret ?_ | refine t_block ?_
          | refine ae_val ?_
          | refine ae_callS ?_
          | (refine ae_alloc ?_; intro la ha hn1; have hNE := And.intro hNE hn1)
          | refine ae_store ?_
          | refine a_cond ?_ ?_
          | (with_reducible intro hc; with_reducible exact Bool.noConfusion hc)
          | (with_reducible intro hc; have hC := And.intro hC hc))
      (first | apply pend rs33 | apply pendN rs33); (focus (simp (maxDischargeDepth := 8) only [hNE, go_sem, e0_1, e0_21, e0_22, h0_23, h0_6, h0_4, h0_5]; first | done | exact rfl)); (focus (simp (maxDischargeDepth := 8) only [hNE, go_sem, e0_1, e0_21, e0_22, h0_23, h0_6, h0_4, h0_5]; first | done | exact rfl))
  · have hlt := nlt_int hi
    have hil : i = l.length := by omega
    rw [hil, List.drop_length, chkL] at hr
    subst hr
    (have hA := And.intro e0_1 (And.intro e0_21 (And.intro e0_22 (And.intro h0_23 (And.intro h0_6 (And.intro h0_4 (And.intro h0_5 (hlt))))))); have hP := True.intro; have hNE := True.intro; have hC := True.intro; repeat' first
        | with_reducible first | refine k_seq ?_ | refine t_seq ?_ | refine t_reg ?_ | refine t_nil ?_ | refine t_ret ?_ | refine t_exit ?_ | refine k_seq_exit ?_ | refine k_blk_exit ?_ | refine k_invX_exit ?_
        | refine ae_val ?_
        | refine a_cond ?_ ?_
        | (with_reducible intro hc; with_reducible exact Bool.noConfusion hc)
        | (with_reducible intro hc; have hC := And.intro hC hc))
    (first | apply pend rs33 | apply pendN rs33); (focus (simp only [go_sem, e0_1, e0_21, e0_22, h0_23, h0_6, h0_4, h0_5]; first | done | exact rfl)); (focus (simp only [go_sem, e0_1, e0_21, e0_22, h0_23, h0_6, h0_4, h0_5]; first | done | exact rfl))
def aftF (s : List UInt8) (x : Ev) : List UInt8 :=
  if x.kind = 0 then s.take x.pos.toNat ++ x.bytes ++ s.drop (min (x.pos.toNat + x.bytes.length) s.length) else if x.kind = 1 then s.take x.pos.toNat else s
theorem aft_len {s : List UInt8} {x : Ev} (h : evE s.length x = 0) : (aftF s x).length = sizeN s.length x := by
  obtain ⟨h1, h2, h3, h4⟩ := evE_zero h
  unfold aftF sizeN
  split
  · simp; omega
  · split
    · simp; omega
    · rfl
attribute [local go_sem] pvMinMax strCmp in
set_option maxHeartbeats 2000000 in
theorem p78 (s : List UInt8) (x : Ev) (h : evE s.length x = 0) (hl : s.length ≤ 20000) (hb : x.bytes.length ≤ 140737488355328) : PPure Try.prog 78 [.str s, encEv x] (.str (aftF s x)) := by
  obtain ⟨h1, h2, h3, h4⟩ := evE_zero h
  obtain ⟨p, hp⟩ : ∃ p : Nat, x.pos = (p : Int) := ⟨x.pos.toNat, by omega⟩
  have hpn : x.pos.toNat = p := by omega
  have b1 : (0 : Int) ≤ (p : Int) := by omega
  have b2 : (p : Int) ≤ (s.length : Int) := by omega
  by_cases hk0 : x.kind = 0
  · obtain ⟨m, hm⟩ : ∃ m, min (p + x.bytes.length) s.length = m := ⟨_, rfl⟩
    have e0 : aftF s x = s.take p ++ x.bytes ++ s.drop m := by simp [aftF, hk0, hpn, hm]
    have w1 : IntKind.i64.wrap ((p : Int) + (x.bytes.length : Int)) = ((p + x.bytes.length : Nat) : Int) := by rw [IntKind.wrap_i64]; omega
    have mn : (if (s.length : Int) < ((p + x.bytes.length : Nat) : Int) then (s.length : Int) else ((p + x.bytes.length : Nat) : Int)) = (m : Int) := by split <;> omega
    have b3 : (0 : Int) ≤ (m : Int) := by omega
    have b4 : (m : Int) ≤ (s.length : Int) := by omega
    have b5 : (((s.take p).length + x.bytes.length : Nat) : Int) ≤ 9223372036854775807 := by simp; omega
    have b6 : (((s.take p ++ x.bytes).length + (s.drop m).length : Nat) : Int) ≤ 9223372036854775807 := by simp; omega
    rw [e0]
    simp only [encEv, hk0, hp]
    (refine ppure_of_T ok78 (by simp only [List.length_cons, List.length_nil]; decide) ?_; refine t_seq ?_)
    (have hA := And.intro b1 (And.intro b2 (And.intro b3 (And.intro b4 (And.intro w1 (And.intro mn (And.intro b5 (b6))))))); have hP := True.intro; have hNE := True.intro; have hC := True.intro; repeat' first
        | ((with_reducible apply te_drwA); (focus (simp (maxDischargeDepth := 8) only [effFlA, List.map_cons, List.map_nil]; exact rfl)); (focus decide +kernel))
        | with_reducible first | refine k_seq ?_ | refine t_seq ?_ | refine t_reg ?_ | refine t_nil ?_ | refine t_ret ?_ | refine k_seq_ret ?_ | refine k_blk_ret ?_ | refine t_block ?_ | refine m_nil ?_
        | refine ae_val ?_
        | refine be_val ?_
        | refine ae_box ?_
        | refine a_cond ?_ ?_
        | (with_reducible intro hc; with_reducible exact Bool.noConfusion hc)
        | (with_reducible intro hc; have hC := And.intro hC hc))
    (first | apply pend rs78 | apply pendN rs78); (focus (simp (maxDischargeDepth := 8) only [hNE, go_sem]; first | done | exact rfl)); (focus (simp (maxDischargeDepth := 8) only [hNE, go_sem]; first | done | exact rfl))
  have ek0 : decide (x.kind = 0) = false := by simp [hk0]
  by_cases hk1 : x.kind = 1
  · have e0 : aftF s x = s.take p := by simp [aftF, hk1, hpn]
    rw [e0]
    simp only [encEv, hk1, hp]
    (refine ppure_of_T ok78 (by simp only [List.length_cons, List.length_nil]; decide) ?_; refine t_seq ?_)
    (have hA := And.intro b1 (b2); have hP := True.intro; have hNE := True.intro; have hC := True.intro; repeat' first
        | with_reducible first | refine k_seq ?_ | refine t_seq ?_ | refine t_reg ?_ | refine t_nil ?_ | refine t_ret ?_ | refine k_seq_ret ?_ | refine k_blk_ret ?_ | refine t_block ?_
        | refine ae_val ?_
        | refine ae_box ?_
        | refine a_cond ?_ ?_
        | (with_reducible intro hc; with_reducible exact Bool.noConfusion hc)
        | (with_reducible intro hc; have hC := And.intro hC hc))
    (first | apply pend rs78 | apply pendN rs78); (focus (simp (maxDischargeDepth := 8) only [hNE, go_sem]; first | done | exact rfl)); (focus (simp (maxDischargeDepth := 8) only [hNE, go_sem]; first | done | exact rfl))
  · have e0 : aftF s x = s := by simp [aftF, hk0, hk1]
    have ek1 : decide (x.kind = 1) = false := by simp [hk1]
    rw [e0]
    simp only [encEv]
    (refine ppure_of_T ok78 (by simp only [List.length_cons, List.length_nil]; decide) ?_; refine t_seq ?_)
    (have hA := And.intro ek0 (ek1); have hP := True.intro; have hNE := True.intro; have hC := True.intro; repeat' first
        | with_reducible first | refine k_seq ?_ | refine t_seq ?_ | refine t_reg ?_ | refine t_nil ?_ | refine t_skip ?_ | refine t_ret ?_ | refine k_blk ?_ | refine t_block ?_
        | refine ae_val ?_
        | refine ae_box ?_
        | refine a_cond ?_ ?_
        | (with_reducible intro hc; with_reducible exact Bool.noConfusion hc)
        | (with_reducible intro hc; have hC := And.intro hC hc))
    (first | apply pend rs78 | apply pendN rs78); (focus (simp (maxDischargeDepth := 8) only [hNE, go_sem]; first | done | exact rfl)); (focus (simp (maxDischargeDepth := 8) only [hNE, go_sem]; first | done | exact rfl))
def wrF (s : List UInt8) (l : List Ev) : List UInt8 := l.foldl aftF s
def EvV : Nat → List Ev → Prop
  | _, [] => True
  | n, x :: r => (sizeF n x).2 = 0 ∧ EvV (sizeF n x).1 r
theorem chkL_zero : ∀ (l : List Ev) (i n : Nat), (chkL l i n).2 = 0 ↔ EvV n l
  | [], i, n => by simp [chkL, EvV]
  | x :: l, i, n => by
    rw [chkL, EvV]
    split
    · rename_i h; rw [chkL_zero l]; simp [h]
    · rename_i h; simp [h]
theorem wrF_len : ∀ (l : List Ev) (s : List UInt8), s.length ≤ 20000 → EvV s.length l → (wrF s l).length ≤ 20000
  | [], s, h, _ => h
  | x :: l, s, h, hv => by
    obtain ⟨h1, h2⟩ := hv
    obtain ⟨g1, g2, g3⟩ := sizeF_le h1
    have e := aft_len g1
    rw [wrF, List.foldl_cons]
    rw [g2, ← e] at h2
    exact wrF_len l _ (by omega) h2
theorem EvV_take : ∀ (l : List Ev) (n k : Nat), EvV n l → EvV n (l.take k)
  | _, _, 0, _ => trivial
  | [], _, k + 1, _ => trivial
  | x :: l, n, k + 1, h => ⟨h.1, EvV_take l _ k h.2⟩
attribute [local go_sem] encEv Int.toNat_natCast List.getElem?_map Option.map_some in
set_option maxHeartbeats 2000000 in
theorem p77 (s0 : List UInt8) (l : List Ev) (hs : s0.length ≤ 20000) (hl : l.length ≤ 1000) (hv : EvV s0.length l) (hb : ∀ x ∈ l, x.bytes.length ≤ 140737488355328) :
    PPure Try.prog 77 [.str s0, .list .any (l.map encEv)] (.str (wrF s0 l)) := by
  obtain ⟨R, hR⟩ : ∃ R, wrF s0 l = R := ⟨_, rfl⟩
  rw [hR]
  (refine ppure_of_T ok77 (by simp only [List.length_cons, List.length_nil]; decide) ?_; refine t_seq ?_)
  (have hA := True.intro; have hP := True.intro; have hNE := True.intro; have hC := True.intro; repeat' first
      | with_reducible first | refine k_seq ?_ | refine t_seq ?_ | refine t_reg ?_ | refine t_nil ?_ | refine t_block ?_
      | refine ae_val ?_)
  refine t_loopX (fun (k0 : Nat) (E0 : Nat → PV) (H0 : Hp) => ∃ (i : Nat) (s : List UInt8), i + k0 = l.length ∧ s.length ≤ 20000 ∧ wrF s (l.drop i) = R ∧ EvV s.length (l.drop i) ∧ E0 9 = .int .i64 (i : Int) ∧ E0 0 = .str s ∧ H0 = hp []) (l.length) ?_ ?_
  intro Ng
  refine ⟨_, _, wkE_id, rowsok_nil, 0, s0, (by first | omega | rfl | assumption | (simp (maxDischargeDepth := 8) only [go_sem, Int.natCast_zero, hNE]; first | done | rfl | assumption | omega)), (by first | omega | rfl | assumption | (simp (maxDischargeDepth := 8) only [go_sem, Int.natCast_zero, hNE]; first | done | rfl | assumption | omega)), ?_, ?_, (by simp (maxDischargeDepth := 8) only [go_sem, Int.natCast_zero, hNE, List.length_append, List.length_cons, List.length_nil, Nat.zero_add]; first | done | rfl), (by simp (maxDischargeDepth := 8) only [go_sem, Int.natCast_zero, hNE, List.length_append, List.length_cons, List.length_nil, Nat.zero_add]; first | done | rfl), rfl⟩
  · exact hR
  · exact hv
  rintro k0 E0 H0 hfr0 ⟨i, s, hk, hn, hr, he, h0_9, h0_0, rfl⟩
  have e0_4 := hfr0 4 rfl; have e0_7 := hfr0 7 rfl; have e0_8 := hfr0 8 rfl
  simp (maxDischargeDepth := 8) only [go_sem, Int.natCast_zero, hNE] at e0_4 e0_7 e0_8
  clear hfr0
  by_cases hi : i < l.length
  · obtain ⟨x, hx, hdr⟩ := at_list hi
    have hlt := lt_int hi
    have hw := wrap_next hi hl
    have hge : (0 : Int) ≤ (i : Int) := by omega
    rw [hdr] at hr he
    obtain ⟨h1, h2⟩ := he
    obtain ⟨g1, g2, g3⟩ := sizeF_le h1
    have hal := aft_len g1
    have h78 := p78 s x g1 hn (hb x (List.mem_of_getElem? hx))
    rw [wrF, List.foldl_cons] at hr
    rw [g2, ← hal] at h2
    have hn2 : (aftF s x).length ≤ 20000 := by omega
    generalize aftF s x = q at h78 hr h2 hn2
    simp only [encEv] at h78
    (have hA := And.intro e0_4 (And.intro e0_7 (And.intro e0_8 (And.intro h0_9 (And.intro h0_0 (And.intro hlt (And.intro hge (hx))))))); have hP := And.intro h78 (True.intro); have hNE := True.intro; have hC := True.intro; repeat' first
        | with_reducible first | refine k_seq ?_ | refine t_seq ?_ | refine t_reg ?_ | refine t_nil ?_ | refine t_skip ?_ | refine k_blk ?_ | refine t_block ?_
        | refine ae_val ?_
        | refine ae_callS ?_
        | (refine ae_alloc ?_; intro la ha hn1; have hNE := And.intro hNE hn1)
        | refine ae_store ?_
        | refine a_cond ?_ ?_
        | (with_reducible intro hc; with_reducible exact Bool.noConfusion hc)
        | (with_reducible intro hc; have hC := And.intro hC hc))
    refine k_invX (k0 - 1) (by omega) ?_
    intro Ng
    refine ⟨_, _, wkE_id, rowsok_nil, i + 1, q, (by first | omega | (simp only [List.length_append, List.length_cons, List.length_nil, List.length_drop, List.length_take, List.length_map]; omega)), (by first | omega | (simp only [List.length_append, List.length_cons, List.length_nil, List.length_drop, List.length_take, List.length_map]; omega)), ?_, ?_, (by simp (maxDischargeDepth := 8) only [go_sem, e0_4, e0_7, e0_8, h0_9, h0_0, hw, hNE, List.length_append, List.length_cons, List.length_nil, Nat.zero_add]; first | done | rfl), (by simp (maxDischargeDepth := 8) only [go_sem, e0_4, e0_7, e0_8, h0_9, h0_0, hw, hNE, List.length_append, List.length_cons, List.length_nil, Nat.zero_add]; first | done | rfl), rfl⟩
    · exact hr
    · exact h2
  · have hlt := nlt_int hi
    have hil : i = l.length := by omega
    rw [hil, List.drop_length, wrF, List.foldl_nil] at hr
    subst hr
    (have hA := And.intro e0_4 (And.intro e0_7 (And.intro e0_8 (And.intro h0_9 (And.intro h0_0 (hlt))))); have hP := True.intro; have hNE := True.intro; have hC := True.intro; repeat' first
        | with_reducible first | refine k_seq ?_ | refine t_seq ?_ | refine t_reg ?_ | refine t_nil ?_ | refine t_ret ?_ | refine t_exit ?_ | refine k_seq_exit ?_ | refine k_blk_exit ?_ | refine k_invX_exit ?_
        | refine ae_val ?_
        | refine a_cond ?_ ?_
        | (with_reducible intro hc; with_reducible exact Bool.noConfusion hc)
        | (with_reducible intro hc; have hC := And.intro hC hc))
    (first | apply pend rs77 | apply pendN rs77); (focus (simp only [go_sem, e0_4, e0_7, e0_8, h0_9, h0_0]; first | done | exact rfl)); (focus (simp only [go_sem, e0_4, e0_7, e0_8, h0_9, h0_0]; first | done | exact rfl))
theorem chkF_zero {s : List UInt8} {l : List Ev} (h : (chkF s l).2 = 0) : s.length ≤ 20000 ∧ l.length ≤ 300 ∧ EvV s.length l := by
  unfold chkF at h
  split at h
  · cases h
  · rename_i hn
    exact ⟨by omega, by omega, (chkL_zero l 0 s.length).1 h⟩
end Go.Proofs.Ythdgdngdfijfhaa
namespace Go.Proofs.Ythdgdngdfijfhaa
open Go.RowKit Go.Proofs
set_option linter.unusedVariables false
set_option linter.unusedSimpArgs false
attribute [local irreducible] PPure CallN Tops TopsDm T
structure Fl where
  (reached kept part : Int)
def encFl (x : Fl) : PV := .agg [.int .i64 x.reached, .int .i64 x.kept, .int .i64 x.part]
def syncL : List Ev → Nat → Nat → Nat
  | [], _, a => a
  | y :: r, i, a => syncL r (i + 1) (if y.kind = 2 then i + 1 else a)
def nextE (l : List Ev) (x : Fl) : Ev := (l[x.kept.toNat]?).getD ⟨0, 0, []⟩
def nextB (l : List Ev) (x : Fl) : List UInt8 := if (nextE l x).kind = 0 then (nextE l x).bytes else []
def failF (s : List UInt8) (l : List Ev) (x : Fl) : List UInt8 × Int :=
  if (chkF s l).2 ≠ 0 then ([], (chkF s l).2)
  else if btw x.reached 0 l.length = false then ([], 2)
  else if btw x.kept (syncL (l.take x.reached.toNat) 0 0) x.reached = false then ([], 2)
  else if btw x.part 0 (nextB l x).length = false then ([], 2)
  else if 0 < x.part then (aftF (wrF s (l.take x.kept.toNat)) { nextE l x with bytes := (nextB l x).take x.part.toNat }, 0)
  else (wrF s (l.take x.kept.toNat), 0)
theorem wr_at : ∀ (l : List Ev) (s : List UInt8) (k : Nat) (x : Ev), EvV s.length l → l[k]? = some x → evE (wrF s (l.take k)).length x = 0
  | [], s, k, x, _, h => by simp at h
  | y :: l, s, 0, x, hv, h => by
    obtain rfl : y = x := by simpa using h
    exact (sizeF_le hv.1).1
  | y :: l, s, k + 1, x, hv, h => by
    obtain ⟨h1, h2⟩ := hv
    obtain ⟨g1, g2, g3⟩ := sizeF_le h1
    rw [g2, ← aft_len g1] at h2
    rw [List.take_succ_cons, wrF, List.foldl_cons]
    exact wr_at l _ k x h2 (by simpa using h)
theorem syncL_le : ∀ (l : List Ev) (i a m : Nat), a ≤ m → i + l.length ≤ m → syncL l i a ≤ m
  | [], i, a, m, h, _ => h
  | y :: l, i, a, m, h, h2 => by
    rw [syncL]
    refine syncL_le l _ _ m ?_ (by simp at h2; omega)
    split
    · simp at h2; omega
    · exact h
theorem evE_cut {n : Nat} {x : Ev} {m : Nat} (h : evE n x = 0) (hm : 0 < m) (hk : x.kind = 0) : evE n { x with bytes := x.bytes.take m } = 0 := by
  obtain ⟨h1, h2, h3, h4⟩ := evE_zero h
  have hne : x.bytes ≠ [] := fun e => by simp [ev2B, hk, e] at h2
  have h5 : (x.bytes.take m == []) = false := by
    simp only [beq_eq_false_iff_ne, ne_eq, List.take_eq_nil_iff, not_or]
    exact ⟨by omega, hne⟩
  rw [evE, orE_zero] at h ⊢
  intro y hy
  simp only [List.mem_cons, List.mem_nil_iff, or_false] at hy
  rcases hy with rfl | rfl | rfl
  · exact h (ev1 x) (by simp)
  · rw [ev2, rfs_zero (by decide)]; simp [ev2B, hk, h5]
  · exact h (ev3 n x) (by simp)
attribute [local go_sem] encEv Int.toNat_natCast List.getElem?_map Option.map_some in
set_option maxHeartbeats 4000000 in
theorem p36 (s : List UInt8) (l : List Ev) (x : Fl) (hs : s.length ≤ 140737488355328) (hl : l.length ≤ 1000) (hb : ∀ x ∈ l, x.bytes.length ≤ 140737488355328) :
    PPure Try.prog 36 [.str s, .list .any (l.map encEv), encFl x] (.tup [.str (failF s l x).1, .int .i64 (failF s l x).2]) := by
  have h1 := p33 s l hs hl hb
  by_cases hz : ¬ (chkF s l).2 = 0
  · have ez := dnz1 hz
    have e0 : failF s l x = ([], (chkF s l).2) := by simp [failF, hz]
    rw [e0]
    simp only [encFl]
    (refine ppure_of_T ok36 (by simp only [List.length_cons, List.length_nil]; decide) ?_; refine t_seq ?_)
    (have hA := ez; have hP := And.intro h1 (True.intro); have hNE := True.intro; have hC := True.intro; repeat' first
        | with_reducible first | refine k_seq ?_ | refine t_seq ?_ | refine t_reg ?_ | refine t_nil ?_ | refine t_ret ?_ | refine k_seq_ret ?_
        | refine ae_val ?_
        | refine ae_callS ?_
        | refine ae_box ?_
        | refine a_cond ?_ ?_
        | (with_reducible intro hc; with_reducible exact Bool.noConfusion hc)
        | (with_reducible intro hc; have hC := And.intro hC hc))
    (first | apply pend rs36 | apply pendN rs36); (focus (simp (maxDischargeDepth := 8) only [hNE, go_sem]; first | done | exact rfl)); (focus (simp (maxDischargeDepth := 8) only [hNE, go_sem]; first | done | exact rfl))
  have hz := Decidable.not_not.1 hz
  obtain ⟨g1, g2, g3⟩ := chkF_zero hz
  have ez := dnz0 hz
  have h2 : PPure Try.prog 58 [.int .i64 x.reached, .int .i64 0, .int .i64 (l.length : Int)] (.bool (btw x.reached 0 l.length)) := p58 _ _ _
  by_cases hre : ¬ btw x.reached 0 l.length = true
  · have e0 : failF s l x = ([], 2) := by simp [failF, hz, hre]
    have er : (!btw x.reached 0 l.length) = true := by simp [hre]
    rw [e0]
    simp only [encFl]
    (refine ppure_of_T ok36 (by simp only [List.length_cons, List.length_nil]; decide) ?_; refine t_seq ?_)
    (have hA := And.intro ez (er); have hP := And.intro h1 (And.intro h2 (True.intro)); have hNE := True.intro; have hC := True.intro; repeat' first
        | with_reducible first | refine k_seq ?_ | refine t_seq ?_ | refine t_reg ?_ | refine t_nil ?_ | refine t_skip ?_ | refine t_ret ?_ | refine k_seq_ret ?_
        | refine ae_val ?_
        | refine ae_callS ?_
        | refine ae_box ?_
        | refine a_cond ?_ ?_
        | (with_reducible intro hc; with_reducible exact Bool.noConfusion hc)
        | (with_reducible intro hc; have hC := And.intro hC hc))
    (first | apply pend rs36 | apply pendN rs36); (focus (simp (maxDischargeDepth := 8) only [hNE, go_sem]; first | done | exact rfl)); (focus (simp (maxDischargeDepth := 8) only [hNE, go_sem]; first | done | exact rfl))
  have hre := Decidable.not_not.1 hre
  have er : (!btw x.reached 0 l.length) = false := by simp [hre]
  have hre2 := hre
  rw [btw_true] at hre2
  obtain ⟨r, hr⟩ : ∃ r : Nat, x.reached = (r : Int) := ⟨x.reached.toNat, by omega⟩
  have hr2 : x.reached.toNat = r := by omega
  have b1 : (0 : Int) ≤ (r : Int) := by omega
  have b2 : (r : Int) ≤ (l.length : Int) := by omega
  have hrl : (l.take r).length = r := by simp; omega
  obtain ⟨S, hS⟩ : ∃ S, syncL (l.take r) 0 0 = S := ⟨_, rfl⟩
  have hSr : S ≤ r := by rw [← hS]; exact syncL_le _ _ _ _ (by omega) (by rw [hrl]; omega)
  obtain ⟨ks, hks⟩ : ∃ ks, l.take r = ks := ⟨_, rfl⟩
  rw [hks] at hrl hS
  obtain ⟨R, hR⟩ : ∃ R, failF s l x = R := ⟨_, rfl⟩
  rw [hR]
  simp only [hr] at h2 er
  simp only [encFl, hr]
  (refine ppure_of_T ok36 (by simp only [List.length_cons, List.length_nil]; decide) ?_; refine t_seq ?_)
  (have hA := And.intro ez (And.intro er (And.intro b1 (And.intro b2 (hks)))); have hP := And.intro h1 (And.intro h2 (True.intro)); have hNE := True.intro; have hC := True.intro; repeat' first
      | with_reducible first | refine k_seq ?_ | refine t_seq ?_ | refine t_reg ?_ | refine t_nil ?_ | refine t_skip ?_ | refine t_block ?_
      | refine ae_val ?_
      | refine ae_callS ?_
      | refine ae_box ?_
      | refine a_cond ?_ ?_
      | (with_reducible intro hc; with_reducible exact Bool.noConfusion hc)
      | (with_reducible intro hc; have hC := And.intro hC hc))
  refine t_loopX (fun (k0 : Nat) (E0 : Nat → PV) (H0 : Hp) => ∃ (i : Nat) (a : Nat), i + k0 = r ∧ a ≤ 1000 ∧ syncL (ks.drop i) i a = S ∧ E0 35 = .int .i64 (i : Int) ∧ E0 10 = .int .i64 (a : Int) ∧ H0 = hp []) (r) ?_ ?_
  intro Ng
  refine ⟨_, _, wkE_id, rowsok_nil, 0, 0, (by first | omega | rfl | assumption | (simp (maxDischargeDepth := 8) only [go_sem, Int.natCast_zero, hNE]; first | done | rfl | assumption | omega)), (by first | omega | rfl | assumption | (simp (maxDischargeDepth := 8) only [go_sem, Int.natCast_zero, hNE]; first | done | rfl | assumption | omega)), ?_, (by simp (maxDischargeDepth := 8) only [go_sem, Int.natCast_zero, hNE, List.length_append, List.length_cons, List.length_nil, Nat.zero_add]; first | done | rfl), (by simp (maxDischargeDepth := 8) only [go_sem, Int.natCast_zero, hNE, List.length_append, List.length_cons, List.length_nil, Nat.zero_add]; first | done | rfl), rfl⟩
  · exact hS
  rintro k0 E0 H0 hfr0 ⟨i, a, hk, ha, hr3, h0_35, h0_10, rfl⟩
  have e0_0 := hfr0 0 rfl; have e0_1 := hfr0 1 rfl; have e0_5 := hfr0 5 rfl; have e0_6 := hfr0 6 rfl; have e0_7 := hfr0 7 rfl; have e0_33 := hfr0 33 rfl; have e0_34 := hfr0 34 rfl
  simp (maxDischargeDepth := 8) only [go_sem, Int.natCast_zero, hNE] at e0_0 e0_1 e0_5 e0_6 e0_7 e0_33 e0_34
  clear hfr0
  by_cases hi : i < r
  · obtain ⟨y, hy, hdr⟩ := at_list (xs := ks) (i := i) (by omega)
    have hlt : (i : Int) < (ks.length : Int) := by omega
    have hw := wrap_next hi (by omega)
    have hge : (0 : Int) ≤ (i : Int) := by omega
    rw [hdr, syncL] at hr3
    by_cases hyk : y.kind = 2
    · have ek : decide (y.kind = 2) = true := by simp [hyk]
      rw [if_pos hyk] at hr3
      (have hA := And.intro e0_0 (And.intro e0_1 (And.intro e0_5 (And.intro e0_6 (And.intro e0_7 (And.intro e0_33 (And.intro e0_34 (And.intro h0_35 (And.intro h0_10 (And.intro hlt (And.intro hge (And.intro hy (ek)))))))))))); have hP := True.intro; have hNE := True.intro; have hC := True.intro; repeat' first
          | with_reducible first | refine k_seq ?_ | refine t_seq ?_ | refine t_reg ?_ | refine t_nil ?_ | refine t_skip ?_ | refine k_blk ?_ | refine t_block ?_
          | refine ae_val ?_
          | (refine ae_alloc ?_; intro la ha hn1; have hNE := And.intro hNE hn1)
          | refine ae_store ?_
          | refine a_cond ?_ ?_
          | (with_reducible intro hc; with_reducible exact Bool.noConfusion hc)
          | (with_reducible intro hc; have hC := And.intro hC hc))
      refine k_invX (k0 - 1) (by omega) ?_
      intro Ng
      refine ⟨_, _, wkE_id, rowsok_nil, i + 1, i + 1, (by first | omega | (simp only [List.length_append, List.length_cons, List.length_nil, List.length_drop, List.length_take, List.length_map]; omega)), (by first | omega | (simp only [List.length_append, List.length_cons, List.length_nil, List.length_drop, List.length_take, List.length_map]; omega)), ?_, (by simp (maxDischargeDepth := 8) only [go_sem, e0_0, e0_1, e0_5, e0_6, e0_7, e0_33, e0_34, h0_35, h0_10, hw, hNE, List.length_append, List.length_cons, List.length_nil, Nat.zero_add]; first | done | rfl), (by simp (maxDischargeDepth := 8) only [go_sem, e0_0, e0_1, e0_5, e0_6, e0_7, e0_33, e0_34, h0_35, h0_10, hw, hNE, List.length_append, List.length_cons, List.length_nil, Nat.zero_add]; first | done | rfl), rfl⟩
      exact hr3
    · have ek : decide (y.kind = 2) = false := by simp [hyk]
      rw [if_neg hyk] at hr3
      (have hA := And.intro e0_0 (And.intro e0_1 (And.intro e0_5 (And.intro e0_6 (And.intro e0_7 (And.intro e0_33 (And.intro e0_34 (And.intro h0_35 (And.intro h0_10 (And.intro hlt (And.intro hge (And.intro hy (ek)))))))))))); have hP := True.intro; have hNE := True.intro; have hC := True.intro; repeat' first
          | with_reducible first | refine k_seq ?_ | refine t_seq ?_ | refine t_reg ?_ | refine t_nil ?_ | refine t_skip ?_ | refine k_blk ?_ | refine t_block ?_
          | refine ae_val ?_
          | (refine ae_alloc ?_; intro la ha hn1; have hNE := And.intro hNE hn1)
          | refine ae_store ?_
          | refine a_cond ?_ ?_
          | (with_reducible intro hc; with_reducible exact Bool.noConfusion hc)
          | (with_reducible intro hc; have hC := And.intro hC hc))
      refine k_invX (k0 - 1) (by omega) ?_
      intro Ng
      refine ⟨_, _, wkE_id, rowsok_nil, i + 1, a, (by first | omega | (simp only [List.length_append, List.length_cons, List.length_nil, List.length_drop, List.length_take, List.length_map]; omega)), (by first | omega | (simp only [List.length_append, List.length_cons, List.length_nil, List.length_drop, List.length_take, List.length_map]; omega)), ?_, (by simp (maxDischargeDepth := 8) only [go_sem, e0_0, e0_1, e0_5, e0_6, e0_7, e0_33, e0_34, h0_35, h0_10, hw, hNE, List.length_append, List.length_cons, List.length_nil, Nat.zero_add]; first | done | rfl), (by simp (maxDischargeDepth := 8) only [go_sem, e0_0, e0_1, e0_5, e0_6, e0_7, e0_33, e0_34, h0_35, h0_10, hw, hNE, List.length_append, List.length_cons, List.length_nil, Nat.zero_add]; first | done | rfl), rfl⟩
      exact hr3
  have hlt : ((i : Int) < (ks.length : Int)) = False := eq_false (by omega)
  have haS : a = S := by
    rw [show i = ks.length by omega, List.drop_length, syncL] at hr3; exact hr3
  subst haS
  have hSx : syncL (l.take x.reached.toNat) 0 0 = a := by rw [hr2, hks]; exact hS
  have h3 : PPure Try.prog 58 [.int .i64 x.kept, .int .i64 (a : Int), .int .i64 (r : Int)] (.bool (btw x.kept a r)) := p58 _ _ _
  by_cases hke : ¬ btw x.kept a x.reached = true
  · have e0 : failF s l x = ([], 2) := by simp [failF, hz, hre, hSx, hke]
    have ek : (!btw x.kept (a : Int) (r : Int)) = true := by rw [hr] at hke; simpa using hke
    rw [e0] at hR
    subst hR
    (have hA := And.intro e0_0 (And.intro e0_1 (And.intro e0_5 (And.intro e0_6 (And.intro e0_7 (And.intro e0_33 (And.intro e0_34 (And.intro h0_35 (And.intro h0_10 (And.intro hlt (ek)))))))))); have hP := And.intro h3 (True.intro); have hNE := True.intro; have hC := True.intro; repeat' first
        | with_reducible first | refine k_seq ?_ | refine t_seq ?_ | refine t_reg ?_ | refine t_nil ?_ | refine t_ret ?_ | refine t_exit ?_ | refine k_seq_exit ?_ | refine k_seq_ret ?_ | refine k_blk_exit ?_ | refine k_invX_exit ?_
        | refine ae_val ?_
        | refine ae_callS ?_
        | refine a_cond ?_ ?_
        | (with_reducible intro hc; with_reducible exact Bool.noConfusion hc)
        | (with_reducible intro hc; have hC := And.intro hC hc))
    (first | apply pend rs36 | apply pendN rs36); (focus (simp (maxDischargeDepth := 8) only [hNE, go_sem, e0_0, e0_1, e0_5, e0_6, e0_7, e0_33, e0_34, h0_35, h0_10]; first | done | exact rfl)); (focus (simp (maxDischargeDepth := 8) only [hNE, go_sem, e0_0, e0_1, e0_5, e0_6, e0_7, e0_33, e0_34, h0_35, h0_10]; first | done | exact rfl))
  have hke := Decidable.not_not.1 hke
  have c1 : (!btw x.kept (a : Int) (r : Int)) = false := by rw [hr] at hke; rw [hke]; rfl
  have hke2 := hke
  rw [btw_true] at hke2
  obtain ⟨k, hk⟩ : ∃ k : Nat, x.kept = (k : Int) := ⟨x.kept.toNat, by omega⟩
  have hk2 : x.kept.toNat = k := by omega
  have c2 : x.kept = (k : Int) := hk
  have h6 := p77 s (l.take k) g1 (by simp; omega) (EvV_take _ _ _ g3) (fun y hy => hb y (List.mem_of_mem_take hy))
  have d1 : (0 : Int) ≤ (k : Int) := by omega
  have d2 : (k : Int) ≤ (l.length : Int) := by omega
  rw [hk] at h3 c1
  by_cases hkl : k < l.length
  · obtain ⟨N, hN, hdr⟩ := at_list (xs := l) (i := k) hkl
    have d3 : decide ((k : Int) < (l.length : Int)) = true := by simp; omega
    have d4 : (k : Int) < (l.length : Int) := by omega
    have hNE0 : nextE l x = N := by simp [nextE, hk2, hN]
    by_cases hkd : N.kind = 0
    · have hB : nextB l x = N.bytes := by simp [nextB, hNE0, hkd]
      have d5 : decide (¬ N.kind = 0) = false := by simp [hkd]
      by_cases hpt : ¬ btw x.part 0 N.bytes.length = true
      · skip
        have hq := hpt
        have ep : btw x.part 0 (N.bytes.length : Int) = false := by simpa using hpt
        have h5 : PPure Try.prog 58 [.int .i64 x.part, .int .i64 0, .int .i64 (N.bytes.length : Int)] (.bool (btw x.part 0 N.bytes.length)) := p58 _ _ _
        have e9 : (!btw x.part 0 (N.bytes.length : Int)) = true := by rw [ep]; rfl
        have e0 : failF s l x = ([], 2) := by
          simp only [failF, hz, hre, hke, hB, List.length_nil, Int.natCast_zero, hSx, ne_eq, not_true_eq_false, if_false, Bool.true_eq_false, Bool.false_eq_true]
          first | rw [if_pos ep] | (simp only [Int.natCast_zero] at ep; rw [if_pos ep])
        rw [e0] at hR
        subst hR
        (have hA := And.intro e0_0 (And.intro e0_1 (And.intro e0_5 (And.intro e0_6 (And.intro e0_7 (And.intro e0_33 (And.intro e0_34 (And.intro h0_35 (And.intro h0_10 (And.intro hlt (And.intro c1 (And.intro c2 (And.intro d1 (And.intro d2 (And.intro d3 (And.intro d4 (And.intro hN (And.intro d5 (e9)))))))))))))))))); have hP := And.intro h3 (And.intro h5 (True.intro)); have hNE := True.intro; have hC := True.intro; repeat' first
            | with_reducible first | refine k_seq ?_ | refine t_seq ?_ | refine t_reg ?_ | refine t_nil ?_ | refine t_skip ?_ | refine t_ret ?_ | refine t_exit ?_ | refine k_seq_exit ?_ | refine k_seq_ret ?_ | refine k_blk_exit ?_ | refine k_invX_exit ?_
            | refine ae_val ?_
            | refine ae_callS ?_
            | (refine ae_alloc ?_; intro la ha hn1; have hNE := And.intro hNE hn1)
            | refine ae_store ?_
            | refine a_cond ?_ ?_
            | (with_reducible intro hc; with_reducible exact Bool.noConfusion hc)
            | (with_reducible intro hc; have hC := And.intro hC hc))
        (first | apply pend rs36 | apply pendN rs36); (focus (simp (maxDischargeDepth := 8) only [hNE, go_sem, e0_0, e0_1, e0_5, e0_6, e0_7, e0_33, e0_34, h0_35, h0_10]; first | done | exact rfl)); (focus (simp (maxDischargeDepth := 8) only [hNE, go_sem, e0_0, e0_1, e0_5, e0_6, e0_7, e0_33, e0_34, h0_35, h0_10]; first | done | exact rfl))
      have hpt := Decidable.not_not.1 hpt
      have hpt2 := hpt
      rw [btw_true] at hpt2
      by_cases hp0 : 0 < x.part
      · obtain ⟨pt, hp2⟩ : ∃ pt : Nat, x.part = (pt : Int) := ⟨x.part.toNat, by omega⟩
        have hp3 : x.part.toNat = pt := by omega
        have hev := evE_cut (m := pt) (wr_at l s k N g3 hN) (by omega) hkd
        have h78 := p78 (wrF s (l.take k)) _ hev (wrF_len _ _ g1 (EvV_take _ _ _ g3)) (by
          have := hb N (List.mem_of_getElem? hN)
          show (N.bytes.take pt).length ≤ _
          simp; omega)
        have h5 : PPure Try.prog 58 [.int .i64 (pt : Int), .int .i64 0, .int .i64 (N.bytes.length : Int)] (.bool (btw pt 0 N.bytes.length)) := p58 _ _ _
        have e9 : (!btw (pt : Int) 0 (N.bytes.length : Int)) = false := by rw [← hp2, hpt]; rfl
        have ep3 : decide ((0 : Int) < (pt : Int)) = true := by simp; omega
        have c3 : (0 : Int) ≤ (pt : Int) := by omega
        have c4 : (pt : Int) ≤ (N.bytes.length : Int) := by omega
        have e0 : failF s l x = (aftF (wrF s (l.take k)) { N with bytes := N.bytes.take pt }, 0) := by
          simp only [failF, hz, hre, hke, hB, hk2, hSx, hNE0, hpt, hp3, ne_eq, not_true_eq_false, if_false, Bool.true_eq_false, Bool.false_eq_true]
          rw [if_pos hp0]
        rw [e0] at hR
        subst hR
        generalize aftF (wrF s (l.take k)) { N with bytes := N.bytes.take pt } = A at h78 ⊢
        simp only [encEv] at h78
        (have hA := And.intro e0_0 (And.intro e0_1 (And.intro e0_5 (And.intro e0_6 (And.intro e0_7 (And.intro e0_33 (And.intro e0_34 (And.intro h0_35 (And.intro h0_10 (And.intro hlt (And.intro c1 (And.intro c2 (And.intro hp2 (And.intro d1 (And.intro d2 (And.intro d3 (And.intro d4 (And.intro hN (And.intro d5 (And.intro e9 (And.intro ep3 (And.intro c3 (c4)))))))))))))))))))))); have hP := And.intro h3 (And.intro h5 (And.intro h6 (And.intro h78 (True.intro)))); have hNE := True.intro; have hC := True.intro; repeat' first
            | with_reducible first | refine k_seq ?_ | refine t_seq ?_ | refine t_reg ?_ | refine t_nil ?_ | refine t_skip ?_ | refine t_ret ?_ | refine t_exit ?_ | refine k_seq_exit ?_ | refine k_blk_exit ?_ | refine k_invX_exit ?_
            | refine ae_val ?_
            | refine ae_callS ?_
            | (refine ae_alloc ?_; intro la ha hn1; have hNE := And.intro hNE hn1)
            | refine ae_store ?_
            | refine a_cond ?_ ?_
            | (with_reducible intro hc; with_reducible exact Bool.noConfusion hc)
            | (with_reducible intro hc; have hC := And.intro hC hc))
        (first | apply pend rs36 | apply pendN rs36); (focus (simp (maxDischargeDepth := 8) only [hNE, go_sem, e0_0, e0_1, e0_5, e0_6, e0_7, e0_33, e0_34, h0_35, h0_10]; first | done | exact rfl)); (focus (simp (maxDischargeDepth := 8) only [hNE, go_sem, e0_0, e0_1, e0_5, e0_6, e0_7, e0_33, e0_34, h0_35, h0_10]; first | done | exact rfl))
      · skip
        have ep : btw x.part 0 (N.bytes.length : Int) = true := by simpa using hpt
        have h5 : PPure Try.prog 58 [.int .i64 x.part, .int .i64 0, .int .i64 (N.bytes.length : Int)] (.bool (btw x.part 0 N.bytes.length)) := p58 _ _ _
        have e9 : (!btw x.part 0 (N.bytes.length : Int)) = false := by rw [ep]; rfl
        have ep3 : decide (0 < x.part) = false := by simp; omega
        have e0 : failF s l x = (wrF s (l.take k), 0) := by
          simp only [failF, hz, hre, hke, hB, hk2, List.length_nil, Int.natCast_zero, hSx, ne_eq, not_true_eq_false, if_false, Bool.true_eq_false, Bool.false_eq_true]
          first | rw [if_neg (by rw [ep]; simp), if_neg (by omega)] | (simp only [Int.natCast_zero] at ep; rw [if_neg (by rw [ep]; simp), if_neg (by omega)])
        rw [e0] at hR
        subst hR
        (have hA := And.intro e0_0 (And.intro e0_1 (And.intro e0_5 (And.intro e0_6 (And.intro e0_7 (And.intro e0_33 (And.intro e0_34 (And.intro h0_35 (And.intro h0_10 (And.intro hlt (And.intro c1 (And.intro c2 (And.intro d1 (And.intro d2 (And.intro d3 (And.intro d4 (And.intro hN (And.intro d5 (And.intro e9 (ep3))))))))))))))))))); have hP := And.intro h3 (And.intro h5 (And.intro h6 (True.intro))); have hNE := True.intro; have hC := True.intro; repeat' first
            | with_reducible first | refine k_seq ?_ | refine t_seq ?_ | refine t_reg ?_ | refine t_nil ?_ | refine t_skip ?_ | refine t_ret ?_ | refine t_exit ?_ | refine k_seq_exit ?_ | refine k_blk_exit ?_ | refine k_invX_exit ?_
            | refine ae_val ?_
            | refine ae_callS ?_
            | (refine ae_alloc ?_; intro la ha hn1; have hNE := And.intro hNE hn1)
            | refine ae_store ?_
            | refine a_cond ?_ ?_
            | (with_reducible intro hc; with_reducible exact Bool.noConfusion hc)
            | (with_reducible intro hc; have hC := And.intro hC hc))
        (first | apply pend rs36 | apply pendN rs36); (focus (simp (maxDischargeDepth := 8) only [hNE, go_sem, e0_0, e0_1, e0_5, e0_6, e0_7, e0_33, e0_34, h0_35, h0_10]; first | done | exact rfl)); (focus (simp (maxDischargeDepth := 8) only [hNE, go_sem, e0_0, e0_1, e0_5, e0_6, e0_7, e0_33, e0_34, h0_35, h0_10]; first | done | exact rfl))
    · have hB : nextB l x = [] := by simp [nextB, hNE0, hkd]
      have d5 : decide (¬ N.kind = 0) = true := by simp [hkd]
      by_cases hpt : ¬ btw x.part 0 (0 : Nat) = true
      · skip
        have hq := hpt
        have ep : btw x.part 0 ((0 : Nat) : Int) = false := by simpa using hpt
        have h5 : PPure Try.prog 58 [.int .i64 x.part, .int .i64 0, .int .i64 ((0 : Nat) : Int)] (.bool (btw x.part 0 (0 : Nat))) := p58 _ _ _
        have e9 : (!btw x.part 0 ((0 : Nat) : Int)) = true := by rw [ep]; rfl
        have e0 : failF s l x = ([], 2) := by
          simp only [failF, hz, hre, hke, hB, List.length_nil, Int.natCast_zero, hSx, ne_eq, not_true_eq_false, if_false, Bool.true_eq_false, Bool.false_eq_true]
          first | rw [if_pos ep] | (simp only [Int.natCast_zero] at ep; rw [if_pos ep])
        rw [e0] at hR
        subst hR
        (have hA := And.intro e0_0 (And.intro e0_1 (And.intro e0_5 (And.intro e0_6 (And.intro e0_7 (And.intro e0_33 (And.intro e0_34 (And.intro h0_35 (And.intro h0_10 (And.intro hlt (And.intro c1 (And.intro c2 (And.intro d1 (And.intro d2 (And.intro d3 (And.intro d4 (And.intro hN (And.intro d5 (e9)))))))))))))))))); have hP := And.intro h3 (And.intro h5 (True.intro)); have hNE := True.intro; have hC := True.intro; repeat' first
            | with_reducible first | refine k_seq ?_ | refine t_seq ?_ | refine t_reg ?_ | refine t_nil ?_ | refine t_skip ?_ | refine t_ret ?_ | refine t_exit ?_ | refine k_seq_exit ?_ | refine k_seq_ret ?_ | refine k_blk_exit ?_ | refine k_invX_exit ?_
            | refine ae_val ?_
            | refine ae_callS ?_
            | (refine ae_alloc ?_; intro la ha hn1; have hNE := And.intro hNE hn1)
            | refine ae_store ?_
            | refine a_cond ?_ ?_
            | (with_reducible intro hc; with_reducible exact Bool.noConfusion hc)
            | (with_reducible intro hc; have hC := And.intro hC hc))
        (first | apply pend rs36 | apply pendN rs36); (focus (simp (maxDischargeDepth := 8) only [hNE, go_sem, e0_0, e0_1, e0_5, e0_6, e0_7, e0_33, e0_34, h0_35, h0_10]; first | done | exact rfl)); (focus (simp (maxDischargeDepth := 8) only [hNE, go_sem, e0_0, e0_1, e0_5, e0_6, e0_7, e0_33, e0_34, h0_35, h0_10]; first | done | exact rfl))
      have hpt := Decidable.not_not.1 hpt
      have hpt2 := hpt
      rw [btw_true] at hpt2
      have ep : btw x.part 0 ((0 : Nat) : Int) = true := by simpa using hpt
      have h5 : PPure Try.prog 58 [.int .i64 x.part, .int .i64 0, .int .i64 ((0 : Nat) : Int)] (.bool (btw x.part 0 (0 : Nat))) := p58 _ _ _
      have e9 : (!btw x.part 0 ((0 : Nat) : Int)) = false := by rw [ep]; rfl
      have ep3 : decide (0 < x.part) = false := by simp; omega
      have e0 : failF s l x = (wrF s (l.take k), 0) := by
        simp only [failF, hz, hre, hke, hB, hk2, List.length_nil, Int.natCast_zero, hSx, ne_eq, not_true_eq_false, if_false, Bool.true_eq_false, Bool.false_eq_true]
        first | rw [if_neg (by rw [ep]; simp), if_neg (by omega)] | (simp only [Int.natCast_zero] at ep; rw [if_neg (by rw [ep]; simp), if_neg (by omega)])
      rw [e0] at hR
      subst hR
      (have hA := And.intro e0_0 (And.intro e0_1 (And.intro e0_5 (And.intro e0_6 (And.intro e0_7 (And.intro e0_33 (And.intro e0_34 (And.intro h0_35 (And.intro h0_10 (And.intro hlt (And.intro c1 (And.intro c2 (And.intro d1 (And.intro d2 (And.intro d3 (And.intro d4 (And.intro hN (And.intro d5 (And.intro e9 (ep3))))))))))))))))))); have hP := And.intro h3 (And.intro h5 (And.intro h6 (True.intro))); have hNE := True.intro; have hC := True.intro; repeat' first
          | with_reducible first | refine k_seq ?_ | refine t_seq ?_ | refine t_reg ?_ | refine t_nil ?_ | refine t_skip ?_ | refine t_ret ?_ | refine t_exit ?_ | refine k_seq_exit ?_ | refine k_blk_exit ?_ | refine k_invX_exit ?_
          | refine ae_val ?_
          | refine ae_callS ?_
          | (refine ae_alloc ?_; intro la ha hn1; have hNE := And.intro hNE hn1)
          | refine ae_store ?_
          | refine a_cond ?_ ?_
          | (with_reducible intro hc; with_reducible exact Bool.noConfusion hc)
          | (with_reducible intro hc; have hC := And.intro hC hc))
      (first | apply pend rs36 | apply pendN rs36); (focus (simp (maxDischargeDepth := 8) only [hNE, go_sem, e0_0, e0_1, e0_5, e0_6, e0_7, e0_33, e0_34, h0_35, h0_10]; first | done | exact rfl)); (focus (simp (maxDischargeDepth := 8) only [hNE, go_sem, e0_0, e0_1, e0_5, e0_6, e0_7, e0_33, e0_34, h0_35, h0_10]; first | done | exact rfl))
  · have d3 : decide ((k : Int) < (l.length : Int)) = false := by simp; omega
    have hB : nextB l x = [] := by simp [nextB, nextE, hk2, List.getElem?_eq_none (by omega : l.length ≤ k)]
    by_cases hpt : ¬ btw x.part 0 (0 : Nat) = true
    · skip
      have hq := hpt
      have ep : btw x.part 0 ((0 : Nat) : Int) = false := by simpa using hpt
      have h5 : PPure Try.prog 58 [.int .i64 x.part, .int .i64 0, .int .i64 ((0 : Nat) : Int)] (.bool (btw x.part 0 (0 : Nat))) := p58 _ _ _
      have e9 : (!btw x.part 0 ((0 : Nat) : Int)) = true := by rw [ep]; rfl
      have e0 : failF s l x = ([], 2) := by
        simp only [failF, hz, hre, hke, hB, List.length_nil, Int.natCast_zero, hSx, ne_eq, not_true_eq_false, if_false, Bool.true_eq_false, Bool.false_eq_true]
        first | rw [if_pos ep] | (simp only [Int.natCast_zero] at ep; rw [if_pos ep])
      rw [e0] at hR
      subst hR
      (have hA := And.intro e0_0 (And.intro e0_1 (And.intro e0_5 (And.intro e0_6 (And.intro e0_7 (And.intro e0_33 (And.intro e0_34 (And.intro h0_35 (And.intro h0_10 (And.intro hlt (And.intro c1 (And.intro c2 (And.intro d1 (And.intro d2 (And.intro d3 (e9))))))))))))))); have hP := And.intro h3 (And.intro h5 (True.intro)); have hNE := True.intro; have hC := True.intro; repeat' first
          | with_reducible first | refine k_seq ?_ | refine t_seq ?_ | refine t_reg ?_ | refine t_nil ?_ | refine t_skip ?_ | refine t_ret ?_ | refine t_exit ?_ | refine k_seq_exit ?_ | refine k_seq_ret ?_ | refine k_blk_exit ?_ | refine k_invX_exit ?_
          | refine ae_val ?_
          | refine ae_callS ?_
          | (refine ae_alloc ?_; intro la ha hn1; have hNE := And.intro hNE hn1)
          | refine ae_store ?_
          | refine a_cond ?_ ?_
          | (with_reducible intro hc; with_reducible exact Bool.noConfusion hc)
          | (with_reducible intro hc; have hC := And.intro hC hc))
      (first | apply pend rs36 | apply pendN rs36); (focus (simp (maxDischargeDepth := 8) only [hNE, go_sem, e0_0, e0_1, e0_5, e0_6, e0_7, e0_33, e0_34, h0_35, h0_10]; first | done | exact rfl)); (focus (simp (maxDischargeDepth := 8) only [hNE, go_sem, e0_0, e0_1, e0_5, e0_6, e0_7, e0_33, e0_34, h0_35, h0_10]; first | done | exact rfl))
    have hpt := Decidable.not_not.1 hpt
    have hpt2 := hpt
    rw [btw_true] at hpt2
    have ep : btw x.part 0 ((0 : Nat) : Int) = true := by simpa using hpt
    have h5 : PPure Try.prog 58 [.int .i64 x.part, .int .i64 0, .int .i64 ((0 : Nat) : Int)] (.bool (btw x.part 0 (0 : Nat))) := p58 _ _ _
    have e9 : (!btw x.part 0 ((0 : Nat) : Int)) = false := by rw [ep]; rfl
    have ep3 : decide (0 < x.part) = false := by simp; omega
    have e0 : failF s l x = (wrF s (l.take k), 0) := by
      simp only [failF, hz, hre, hke, hB, hk2, List.length_nil, Int.natCast_zero, hSx, ne_eq, not_true_eq_false, if_false, Bool.true_eq_false, Bool.false_eq_true]
      first | rw [if_neg (by rw [ep]; simp), if_neg (by omega)] | (simp only [Int.natCast_zero] at ep; rw [if_neg (by rw [ep]; simp), if_neg (by omega)])
    rw [e0] at hR
    subst hR
    (have hA := And.intro e0_0 (And.intro e0_1 (And.intro e0_5 (And.intro e0_6 (And.intro e0_7 (And.intro e0_33 (And.intro e0_34 (And.intro h0_35 (And.intro h0_10 (And.intro hlt (And.intro c1 (And.intro c2 (And.intro d1 (And.intro d2 (And.intro d3 (And.intro e9 (ep3)))))))))))))))); have hP := And.intro h3 (And.intro h5 (And.intro h6 (True.intro))); have hNE := True.intro; have hC := True.intro; repeat' first
        | with_reducible first | refine k_seq ?_ | refine t_seq ?_ | refine t_reg ?_ | refine t_nil ?_ | refine t_skip ?_ | refine t_ret ?_ | refine t_exit ?_ | refine k_seq_exit ?_ | refine k_blk_exit ?_ | refine k_invX_exit ?_
        | refine ae_val ?_
        | refine ae_callS ?_
        | (refine ae_alloc ?_; intro la ha hn1; have hNE := And.intro hNE hn1)
        | refine ae_store ?_
        | refine a_cond ?_ ?_
        | (with_reducible intro hc; with_reducible exact Bool.noConfusion hc)
        | (with_reducible intro hc; have hC := And.intro hC hc))
    (first | apply pend rs36 | apply pendN rs36); (focus (simp (maxDischargeDepth := 8) only [hNE, go_sem, e0_0, e0_1, e0_5, e0_6, e0_7, e0_33, e0_34, h0_35, h0_10]; first | done | exact rfl)); (focus (simp (maxDischargeDepth := 8) only [hNE, go_sem, e0_0, e0_1, e0_5, e0_6, e0_7, e0_33, e0_34, h0_35, h0_10]; first | done | exact rfl))
end Go.Proofs.Ythdgdngdfijfhaa
namespace Go.Proofs.Ythdgdngdfijfhaa
open Go.RowKit Go.Proofs
set_option linter.unusedVariables false
set_option linter.unusedSimpArgs false
attribute [local irreducible] PPure CallN Tops TopsDm T
theorem not_lt_or (n lo hi : Int) : (!(decide (n < lo) || decide (hi < n))) = btw n lo hi := by
  unfold btw
  rw [Bool.not_or, ← decide_not, ← decide_not]
  congr 1 <;> (simp only [decide_eq_decide]; omega)
theorem p53 (n lo hi : Int) : PPure Try.prog 53 [.int .i64 n, .int .i64 lo, .int .i64 hi] (.bool (btw n lo hi)) := by
  have h := not_lt_or n lo hi
  rw [← h]
  (refine ppure_of_T ok53 (by simp only [List.length_cons, List.length_nil]; decide) ?_; refine t_seq ?_)
  (have hA := True.intro; have hP := True.intro; have hNE := True.intro; have hC := True.intro; repeat' first
      | with_reducible first | refine k_seq ?_ | refine t_seq ?_ | refine t_reg ?_ | refine t_nil ?_ | refine t_ret ?_
      | refine ae_val ?_
      | refine ae_gval ?_)
  (first | apply pend rs53 | apply pendN rs53); (focus (simp only [go_sem]; first | done | exact rfl)); (focus (simp only [go_sem]; first | done | exact rfl))
end Go.Proofs.Ythdgdngdfijfhaa
namespace Go.Proofs.Ythdgdngdfijfhaa
open Go.RowKit Go.Proofs
set_option linter.unusedVariables false
set_option linter.unusedSimpArgs false
attribute [local irreducible] PPure CallN Tops TopsDm T
theorem orE2 (b c : Bool) (x y : Int) (hx : x ≠ 0) (hy : y ≠ 0) : orE [rfs b x, rfs c y] = if b = true then x else if c = true then y else 0 := by
  cases b <;> cases c <;> simp [orE, rfs, hx, hy]
theorem orE3 (b c d : Bool) (x y z : Int) (hx : x ≠ 0) (hy : y ≠ 0) (hz : z ≠ 0) : orE [rfs b x, rfs c y, rfs d z] = if b = true then x else if c = true then y else if d = true then z else 0 := by
  cases b <;> cases c <;> cases d <;> simp [orE, rfs, hx, hy, hz]
theorem p52 (a w : Int) : PPure Try.prog 52 [.int .i64 a, .int .i64 w] (.int .i64 (accF a w)) := by
  have h1 := p53 a 0 2
  have h2 := p53 w 1 200
  rw [accF, orE2 _ _ _ _ (by decide) (by decide)]
  by_cases h : btw a 0 2 = true
  · have e1 : (!btw a 0 2) = false := by rw [h]; rfl
    by_cases ha : a = 1
    · have e2 : decide (a = 1) = true := by simp [ha]
      have e3 : decide (¬ a = 1) = false := by simp [ha]
      subst ha
      cases hb : btw w 1 200 with
      | true =>
        rw [hb] at h2
        rw [h] at h1
        simp only [h, hb]
        (refine ppure_of_T ok52 (by simp only [List.length_cons, List.length_nil]; decide) ?_; refine t_seq ?_)
        (have hA := And.intro e2 (e3); have hP := And.intro h1 (And.intro h2 (True.intro)); have hNE := True.intro; have hC := True.intro; repeat' first
            | with_reducible first | refine k_seq ?_ | refine t_seq ?_ | refine t_reg ?_ | refine t_nil ?_ | refine t_skip ?_ | refine t_ret ?_
            | refine ae_val ?_
            | refine ae_callS ?_
            | refine ae_gval ?_
            | refine ae_gcallS ?_
            | refine a_cond ?_ ?_
            | (with_reducible intro hc; with_reducible exact Bool.noConfusion hc)
            | (with_reducible intro hc; have hC := And.intro hC hc))
        (first | apply pend rs52 | apply pendN rs52); (focus (simp only [go_sem]; first | done | exact rfl)); (focus (simp only [go_sem]; first | done | exact rfl))
      | false =>
        rw [hb] at h2
        rw [h] at h1
        simp only [h, hb]
        (refine ppure_of_T ok52 (by simp only [List.length_cons, List.length_nil]; decide) ?_; refine t_seq ?_)
        (have hA := And.intro e2 (e3); have hP := And.intro h1 (And.intro h2 (True.intro)); have hNE := True.intro; have hC := True.intro; repeat' first
            | with_reducible first | refine k_seq ?_ | refine t_seq ?_ | refine t_reg ?_ | refine t_nil ?_ | refine t_skip ?_ | refine t_ret ?_ | refine k_seq_ret ?_
            | refine ae_val ?_
            | refine ae_callS ?_
            | refine ae_gval ?_
            | refine ae_gcallS ?_
            | refine ae_gskip ?_
            | refine a_cond ?_ ?_
            | (with_reducible intro hc; with_reducible exact Bool.noConfusion hc)
            | (with_reducible intro hc; have hC := And.intro hC hc))
        (first | apply pend rs52 | apply pendN rs52); (focus (simp only [go_sem]; first | done | exact rfl)); (focus (simp only [go_sem]; first | done | exact rfl))
    · have e2 : decide (a = 1) = false := by simp [ha]
      have e3 : decide (¬ a = 1) = true := by simp [ha]
      by_cases hw : w = 0
      · have e4 : decide (¬ w = 0) = false := by simp [hw]
        have e5 : (if (!btw a 0 2) = true then (15 : Int) else if (!if a = 1 then btw w 1 200 else decide (w = 0)) = true then 2 else 0) = 0 := by simp [h, ha, hw]
        rw [e5]
        rw [h] at h1
        (refine ppure_of_T ok52 (by simp only [List.length_cons, List.length_nil]; decide) ?_; refine t_seq ?_)
        (have hA := And.intro e2 (And.intro e3 (e4)); have hP := And.intro h1 (And.intro h2 (True.intro)); have hNE := True.intro; have hC := True.intro; repeat' first
            | with_reducible first | refine k_seq ?_ | refine t_seq ?_ | refine t_reg ?_ | refine t_nil ?_ | refine t_skip ?_ | refine t_ret ?_
            | refine ae_val ?_
            | refine ae_callS ?_
            | refine ae_gval ?_
            | refine ae_gcallS ?_
            | refine a_cond ?_ ?_
            | (with_reducible intro hc; with_reducible exact Bool.noConfusion hc)
            | (with_reducible intro hc; have hC := And.intro hC hc))
        (first | apply pend rs52 | apply pendN rs52); (focus (simp only [go_sem]; first | done | exact rfl)); (focus (simp only [go_sem]; first | done | exact rfl))
      · have e4 : decide (¬ w = 0) = true := by simp [hw]
        have e5 : (if (!btw a 0 2) = true then (15 : Int) else if (!if a = 1 then btw w 1 200 else decide (w = 0)) = true then 2 else 0) = 2 := by simp [h, ha, hw]
        rw [e5]
        rw [h] at h1
        (refine ppure_of_T ok52 (by simp only [List.length_cons, List.length_nil]; decide) ?_; refine t_seq ?_)
        (have hA := And.intro e2 (And.intro e3 (e4)); have hP := And.intro h1 (And.intro h2 (True.intro)); have hNE := True.intro; have hC := True.intro; repeat' first
            | with_reducible first | refine k_seq ?_ | refine t_seq ?_ | refine t_reg ?_ | refine t_nil ?_ | refine t_skip ?_ | refine t_ret ?_ | refine k_seq_ret ?_
            | refine ae_val ?_
            | refine ae_callS ?_
            | refine ae_gval ?_
            | refine ae_gcallS ?_
            | refine a_cond ?_ ?_
            | (with_reducible intro hc; with_reducible exact Bool.noConfusion hc)
            | (with_reducible intro hc; have hC := And.intro hC hc))
        (first | apply pend rs52 | apply pendN rs52); (focus (simp only [go_sem]; first | done | exact rfl)); (focus (simp only [go_sem]; first | done | exact rfl))
  · have e1 : (!btw a 0 2) = true := by simpa using h
    have h : btw a 0 2 = false := by simpa using h
    rw [h] at h1 ⊢
    (refine ppure_of_T ok52 (by simp only [List.length_cons, List.length_nil]; decide) ?_; refine t_seq ?_)
    (have hA := True.intro; have hP := And.intro h1 (True.intro); have hNE := True.intro; have hC := True.intro; repeat' first
        | with_reducible first | refine k_seq ?_ | refine t_seq ?_ | refine t_reg ?_ | refine t_nil ?_ | refine t_ret ?_ | refine k_seq_ret ?_
        | refine ae_val ?_
        | refine ae_callS ?_
        | refine a_cond ?_ ?_
        | (with_reducible intro hc; with_reducible exact Bool.noConfusion hc)
        | (with_reducible intro hc; have hC := And.intro hC hc))
    (first | apply pend rs52 | apply pendN rs52); (focus (simp only [go_sem]; first | done | exact rfl)); (focus (simp only [go_sem]; first | done | exact rfl))
end Go.Proofs.Ythdgdngdfijfhaa
namespace Go.Proofs.Ythdgdngdfijfhaa
open Go.RowKit Go.Proofs
set_option linter.unusedVariables false
set_option linter.unusedSimpArgs false
attribute [local irreducible] PPure CallN Tops TopsDm T
theorem unitE_acc {u : Un} (h : ¬ accF u.access u.width = 0) : unitE u = accF u.access u.width := by
  have : unitE1 u = accF u.access u.width := by simp [unitE1, orE, h]
  rw [unitE, this, if_neg h]
theorem unitE_large {u : Un} (h : accF u.access u.width = 0) (h2 : largeB u = true) : unitE u = 8 := by
  have : unitE1 u = 8 := by simp [unitE1, orE, h, rfs, h2]
  rw [unitE, this]; rfl
theorem unitE_form {u : Un} (h : accF u.access u.width = 0) (h2 : largeB u = false) (h3 : formB u = true) : unitE u = 3 := by
  have : unitE1 u = 3 := by simp [unitE1, orE, h, rfs, h2, h3]
  rw [unitE, this]; rfl
theorem unitE_rec {u : Un} (h : accF u.access u.width = 0) (h2 : largeB u = false) (h3 : formB u = false) (h4 : ¬ recsE u = 0) : unitE u = recsE u := by
  have : unitE1 u = 0 := by simp [unitE1, orE, h, rfs, h2, h3]
  rw [unitE, this, if_pos rfl]; simp [orE, h4]
theorem unitE_pos {u : Un} (h : accF u.access u.width = 0) (h2 : largeB u = false) (h3 : formB u = false) (h4 : recsE u = 0) : unitE u = rfs (!btw u.pos 0 (roomF u)) 2 := by
  have : unitE1 u = 0 := by simp [unitE1, orE, h, rfs, h2, h3]
  rw [unitE, this, if_pos rfl]
  cases btw u.pos 0 (roomF u) <;> simp [orE, rfs, h4]
theorem large_split {u : Un} (h : largeB u = false) : decide (60 < (u.recs.length : Int)) = false ∧ decide (4000 < (u.bytes.length : Int)) = false := by
  simpa [largeB] using h
attribute [local go_sem] cast0 encS Int.toNat_natCast List.getElem?_map Option.map_some encB in
set_option maxHeartbeats 4000000 in
theorem p15 (u : Un) (hl : u.recs.length ≤ 1000) (hl2 : u.there.length ≤ 1000) : PPure Try.prog 15 [encU u] (.int .i64 (unitE u)) := by
  have h1 := p52 u.access u.width
  by_cases hac : ¬ accF u.access u.width = 0
  · have e1 := dnz1 hac
    rw [unitE_acc hac]
    simp only [encU]
    (refine ppure_of_T ok15 (by simp only [List.length_cons, List.length_nil]; decide) ?_; refine t_seq ?_)
    (have hA := e1; have hP := And.intro h1 (True.intro); have hNE := True.intro; have hC := True.intro; repeat' first
        | with_reducible first | refine k_seq ?_ | refine t_seq ?_ | refine t_reg ?_ | refine t_nil ?_ | refine t_ret ?_ | refine k_seq_ret ?_
        | refine ae_val ?_
        | refine ae_callS ?_
        | refine ae_box ?_
        | refine a_cond ?_ ?_
        | (with_reducible intro hc; with_reducible exact Bool.noConfusion hc)
        | (with_reducible intro hc; have hC := And.intro hC hc))
    (first | apply pend rs15 | apply pendN rs15); (focus (simp (maxDischargeDepth := 8) only [hNE, go_sem]; first | done | exact rfl)); (focus (simp (maxDischargeDepth := 8) only [hNE, go_sem]; first | done | exact rfl))
  have hac := Decidable.not_not.1 hac
  have e1 := dnz0 hac
  by_cases hlg : largeB u = true
  · rw [unitE_large hac hlg]
    simp only [encU]
    unfold largeB at hlg
    by_cases hr : decide (60 < (u.recs.length : Int)) = true
    · (refine ppure_of_T ok15 (by simp only [List.length_cons, List.length_nil]; decide) ?_; refine t_seq ?_)
      (have hA := And.intro e1 (hr); have hP := And.intro h1 (True.intro); have hNE := True.intro; have hC := True.intro; repeat' first
          | with_reducible first | refine k_seq ?_ | refine t_seq ?_ | refine t_reg ?_ | refine t_nil ?_ | refine t_skip ?_ | refine t_ret ?_ | refine k_seq_ret ?_
          | refine ae_val ?_
          | refine ae_callS ?_
          | refine ae_gval ?_
          | refine ae_box ?_
          | refine a_cond ?_ ?_
          | (with_reducible intro hc; with_reducible exact Bool.noConfusion hc)
          | (with_reducible intro hc; have hC := And.intro hC hc))
      (first | apply pend rs15 | apply pendN rs15); (focus (simp (maxDischargeDepth := 8) only [hNE, go_sem]; first | done | exact rfl)); (focus (simp (maxDischargeDepth := 8) only [hNE, go_sem]; first | done | exact rfl))
    · have hr : decide (60 < (u.recs.length : Int)) = false := by simpa using hr
      rw [hr, Bool.false_or] at hlg
      (refine ppure_of_T ok15 (by simp only [List.length_cons, List.length_nil]; decide) ?_; refine t_seq ?_)
      (have hA := And.intro e1 (And.intro hr (hlg)); have hP := And.intro h1 (True.intro); have hNE := True.intro; have hC := True.intro; repeat' first
          | with_reducible first | refine k_seq ?_ | refine t_seq ?_ | refine t_reg ?_ | refine t_nil ?_ | refine t_skip ?_ | refine t_ret ?_ | refine k_seq_ret ?_
          | refine ae_val ?_
          | refine ae_callS ?_
          | refine ae_gval ?_
          | refine ae_box ?_
          | refine a_cond ?_ ?_
          | (with_reducible intro hc; with_reducible exact Bool.noConfusion hc)
          | (with_reducible intro hc; have hC := And.intro hC hc))
      (first | apply pend rs15 | apply pendN rs15); (focus (simp (maxDischargeDepth := 8) only [hNE, go_sem]; first | done | exact rfl)); (focus (simp (maxDischargeDepth := 8) only [hNE, go_sem]; first | done | exact rfl))
  have hlg : largeB u = false := by simpa using hlg
  obtain ⟨l1, l2⟩ := large_split hlg
  have ha : u.access = 0 ∨ u.access = 1 ∨ u.access = 2 := by
    unfold accF at hac
    rw [orE_zero] at hac
    have := hac _ List.mem_cons_self
    rw [rfs_zero (by decide)] at this
    simp at this
    rw [btw_true] at this; omega
  rcases ha with ha | ha | ha
  · -- sequential
    by_cases hb : (u.bytes == []) = true
    · by_cases ht : 0 < (u.there.length : Int)
      · have ht2 : decide (0 < (u.there.length : Int)) = true := by simpa using ht
        have hf : formB u = true := by simp [formB, ha, hb]; omega
        rw [unitE_form hac hlg hf]
        simp only [encU, ha] at h1 e1 ⊢
        (refine ppure_of_T ok15 (by simp only [List.length_cons, List.length_nil]; decide) ?_; refine t_seq ?_)
        (have hA := And.intro e1 (And.intro l1 (And.intro l2 (And.intro hb (ht2)))); have hP := And.intro h1 (True.intro); have hNE := True.intro; have hC := True.intro; repeat' first
            | with_reducible first | refine k_seq ?_ | refine t_seq ?_ | refine t_reg ?_ | refine t_nil ?_ | refine t_skip ?_ | refine t_ret ?_ | refine k_seq_ret ?_
            | refine ae_val ?_
            | refine ae_callS ?_
            | refine ae_gval ?_
            | refine ae_gno ?_
            | refine ae_gskip ?_
            | refine ae_box ?_
            | refine a_cond ?_ ?_
            | (with_reducible intro hc; with_reducible exact Bool.noConfusion hc)
            | (with_reducible intro hc; have hC := And.intro hC hc))
        (first | apply pend rs15 | apply pendN rs15); (focus (simp (maxDischargeDepth := 8) only [hNE, go_sem]; first | done | exact rfl)); (focus (simp (maxDischargeDepth := 8) only [hNE, go_sem]; first | done | exact rfl))
      · have ht2 : decide (0 < (u.there.length : Int)) = false := by simpa using ht
        have ht0 : u.there = [] := List.eq_nil_of_length_eq_zero (by omega)
        have hf : formB u = false := by simp [formB, ha, hb, ht0]
        obtain ⟨R, hR⟩ : ∃ R, recsL u u.recs 0 = R := ⟨_, rfl⟩
        have hrec : recsE u = R := by simp [recsE, ha, hR, thereE, ht0]; intro h; exact h.symm
        have h53 := p53 u.pos 0 ((u.recs.length : Int) + 1)
        have w1 : IntKind.i64.wrap ((u.recs.length : Int) + 1) = (u.recs.length : Int) + 1 := by rw [IntKind.wrap_i64]; omega
        have hroom : roomF u = (u.recs.length : Int) + 1 := by simp [roomF, ha]
        have hfin : R = 0 → unitE u = rfs (!btw u.pos 0 ((u.recs.length : Int) + 1)) 2 := fun h => by rw [unitE_pos hac hlg hf (by rw [hrec]; exact h), hroom]
        have hbad : ¬ R = 0 → unitE u = R := fun h => by rw [unitE_rec hac hlg hf (by rw [hrec]; exact h), hrec]
        generalize unitE u = E at hfin hbad ⊢
        simp only [encU, ha, ht0, List.map_nil] at h1 e1 ⊢
        (refine ppure_of_T ok15 (by simp only [List.length_cons, List.length_nil]; decide) ?_; refine t_seq ?_)
        (have hA := And.intro e1 (And.intro l1 (And.intro l2 (hb))); have hP := And.intro h1 (True.intro); have hNE := True.intro; have hC := True.intro; repeat' first
            | with_reducible first | refine k_seq ?_ | refine t_seq ?_ | refine t_reg ?_ | refine t_nil ?_ | refine t_skip ?_ | refine t_block ?_
            | refine ae_val ?_
            | refine ae_callS ?_
            | refine ae_gval ?_
            | refine ae_gno ?_
            | refine ae_box ?_
            | refine a_cond ?_ ?_
            | (with_reducible intro hc; with_reducible exact Bool.noConfusion hc)
            | (with_reducible intro hc; have hC := And.intro hC hc))
        refine t_loopX (fun (k0 : Nat) (E0 : Nat → PV) (H0 : Hp) => ∃ (i : Nat), i + k0 = u.recs.length ∧ recsL u (u.recs.drop i) i = R ∧ E0 6 = .int .i64 (i : Int) ∧ H0 = hp []) (u.recs.length) ?_ ?_
        intro Ng
        refine ⟨_, _, wkE_id, rowsok_nil, 0, (by first | omega | rfl | assumption | (simp (maxDischargeDepth := 8) only [go_sem, cast0, hNE]; first | done | rfl | assumption | omega)), ?_, (by simp (maxDischargeDepth := 8) only [go_sem, cast0, hNE, List.length_append, List.length_cons, List.length_nil, Nat.zero_add]; first | done | rfl), rfl⟩
        · exact hR
        rintro k0 E0 H0 hfr0 ⟨i, hk, hr, h0_6, rfl⟩
        have e0_1 := hfr0 1 rfl; have e0_4 := hfr0 4 rfl; have e0_5 := hfr0 5 rfl
        simp (maxDischargeDepth := 8) only [go_sem, cast0, hNE] at e0_1 e0_4 e0_5
        clear hfr0
        by_cases hi : i < u.recs.length
        · obtain ⟨s, hx, hdr⟩ := at_list hi
          have hlt := lt_int hi
          have hw := wrap_next hi hl
          have hge : (0 : Int) ≤ (i : Int) := by omega
          rw [hdr, recsL] at hr
          have hre : recE u s ((u.there[i]?).getD false) = rfs (decide (200 < (s.length : Int))) 8 := by simp [recE, ha]
          rw [hre] at hr
          by_cases h2 : 200 < (s.length : Int)
          · have h2d : decide (200 < (s.length : Int)) = true := by simpa using h2
            rw [h2d] at hr
            have hR8 : R = 8 := by rw [← hr]; rfl
            have hE := hbad (by rw [hR8]; decide)
            rw [hE, hR8]
            (have hA := And.intro e0_1 (And.intro e0_4 (And.intro e0_5 (And.intro h0_6 (And.intro hlt (And.intro hge (And.intro hx (h2d))))))); have hP := True.intro; have hNE := True.intro; have hC := True.intro; repeat' first
                | with_reducible first | refine k_seq ?_ | refine t_seq ?_ | refine t_reg ?_ | refine t_nil ?_ | refine t_skip ?_ | refine t_ret ?_ | refine k_seq_ret ?_ | refine k_blk_ret ?_ | refine k_invX_ret ?_ | refine t_block ?_
                | refine ae_val ?_
                | refine ae_gval ?_
                | refine a_cond ?_ ?_
                | (with_reducible intro hc; with_reducible exact Bool.noConfusion hc)
                | (with_reducible intro hc; have hC := And.intro hC hc))
            (first | apply pend rs15 | apply pendN rs15); (focus (simp (maxDischargeDepth := 8) only [hNE, go_sem, e0_1, e0_4, e0_5, h0_6]; first | done | exact rfl)); (focus (simp (maxDischargeDepth := 8) only [hNE, go_sem, e0_1, e0_4, e0_5, h0_6]; first | done | exact rfl))
          · have h2d : decide (200 < (s.length : Int)) = false := by simpa using h2
            rw [h2d, if_pos (show rfs false 8 = 0 from rfl)] at hr
            (have hA := And.intro e0_1 (And.intro e0_4 (And.intro e0_5 (And.intro h0_6 (And.intro hlt (And.intro hge (And.intro hx (h2d))))))); have hP := True.intro; have hNE := True.intro; have hC := True.intro; repeat' first
                | ((with_reducible apply te_drwA); (focus (simp (maxDischargeDepth := 8) only [effFlA, List.map_cons, List.map_nil]; exact rfl)); (focus decide +kernel))
                | with_reducible first | refine k_seq ?_ | refine t_seq ?_ | refine t_reg ?_ | refine t_nil ?_ | refine t_skip ?_ | refine k_blk ?_ | refine t_block ?_ | refine m_nil ?_
                | refine ae_val ?_
                | refine ae_gval ?_
                | refine be_val ?_
                | refine be_gval ?_
                | refine be_gno ?_
                | refine be_gskip ?_
                | refine a_cond ?_ ?_
                | (with_reducible intro hc; with_reducible exact Bool.noConfusion hc)
                | (with_reducible intro hc; have hC := And.intro hC hc))
            refine k_invX (k0 - 1) (by omega) ?_
            intro Ng
            refine ⟨_, _, wkE_id, rowsok_nil, i + 1, (by first | omega | (simp only [List.length_append, List.length_cons, List.length_nil, List.length_drop, List.length_take, List.length_map]; omega)), ?_, (by simp (maxDischargeDepth := 8) only [go_sem, e0_1, e0_4, e0_5, h0_6, hw, hNE, List.length_append, List.length_cons, List.length_nil, Nat.zero_add]; first | done | rfl), rfl⟩
            exact hr
        · have hlt := nlt_int hi
          have hil : i = u.recs.length := by omega
          rw [hil, List.drop_length, recsL] at hr
          have hE := hfin hr.symm
          cases hbt : btw u.pos 0 ((u.recs.length : Int) + 1) with
          | true =>
            rw [hbt] at hE h53
            rw [hE]
            (have hA := And.intro e0_1 (And.intro e0_4 (And.intro e0_5 (And.intro h0_6 (And.intro hlt (w1))))); have hP := And.intro h53 (True.intro); have hNE := True.intro; have hC := True.intro; repeat' first
                | with_reducible first | refine k_seq ?_ | refine t_seq ?_ | refine t_reg ?_ | refine t_nil ?_ | refine t_skip ?_ | refine t_ret ?_ | refine t_exit ?_ | refine k_seq_exit ?_ | refine k_blk_exit ?_ | refine k_invX_exit ?_
                | refine ae_val ?_
                | refine ae_callS ?_
                | refine ae_gval ?_
                | refine ae_gno ?_
                | refine a_cond ?_ ?_
                | (with_reducible intro hc; with_reducible exact Bool.noConfusion hc)
                | (with_reducible intro hc; have hC := And.intro hC hc))
            (first | apply pend rs15 | apply pendN rs15); (focus (simp (maxDischargeDepth := 8) only [hNE, go_sem, e0_1, e0_4, e0_5, h0_6, rfs]; first | done | exact rfl)); (focus (simp (maxDischargeDepth := 8) only [hNE, go_sem, e0_1, e0_4, e0_5, h0_6, rfs]; first | done | exact rfl))
          | false =>
            rw [hbt] at hE h53
            rw [hE]
            (have hA := And.intro e0_1 (And.intro e0_4 (And.intro e0_5 (And.intro h0_6 (And.intro hlt (w1))))); have hP := And.intro h53 (True.intro); have hNE := True.intro; have hC := True.intro; repeat' first
                | with_reducible first | refine k_seq ?_ | refine t_seq ?_ | refine t_reg ?_ | refine t_nil ?_ | refine t_skip ?_ | refine t_ret ?_ | refine t_exit ?_ | refine k_seq_exit ?_ | refine k_seq_ret ?_ | refine k_blk_exit ?_ | refine k_invX_exit ?_
                | refine ae_val ?_
                | refine ae_callS ?_
                | refine ae_gval ?_
                | refine ae_gno ?_
                | refine a_cond ?_ ?_
                | (with_reducible intro hc; with_reducible exact Bool.noConfusion hc)
                | (with_reducible intro hc; have hC := And.intro hC hc))
            (first | apply pend rs15 | apply pendN rs15); (focus (simp (maxDischargeDepth := 8) only [hNE, go_sem, e0_1, e0_4, e0_5, h0_6, rfs]; first | done | exact rfl)); (focus (simp (maxDischargeDepth := 8) only [hNE, go_sem, e0_1, e0_4, e0_5, h0_6, rfs]; first | done | exact rfl))
    · have hb : (u.bytes == []) = false := by simpa using hb
      have hf : formB u = true := by simp [formB, ha, hb]
      rw [unitE_form hac hlg hf]
      simp only [encU, ha] at h1 e1 ⊢
      (refine ppure_of_T ok15 (by simp only [List.length_cons, List.length_nil]; decide) ?_; refine t_seq ?_)
      (have hA := And.intro e1 (And.intro l1 (And.intro l2 (hb))); have hP := And.intro h1 (True.intro); have hNE := True.intro; have hC := True.intro; repeat' first
          | with_reducible first | refine k_seq ?_ | refine t_seq ?_ | refine t_reg ?_ | refine t_nil ?_ | refine t_skip ?_ | refine t_ret ?_ | refine k_seq_ret ?_
          | refine ae_val ?_
          | refine ae_callS ?_
          | refine ae_gval ?_
          | refine ae_gno ?_
          | refine ae_gskip ?_
          | refine ae_box ?_
          | refine a_cond ?_ ?_
          | (with_reducible intro hc; with_reducible exact Bool.noConfusion hc)
          | (with_reducible intro hc; have hC := And.intro hC hc))
      (first | apply pend rs15 | apply pendN rs15); (focus (simp (maxDischargeDepth := 8) only [hNE, go_sem]; first | done | exact rfl)); (focus (simp (maxDischargeDepth := 8) only [hNE, go_sem]; first | done | exact rfl))
  · -- direct
    have hnr : ¬ ((0 : Int) < 0) := by decide
    by_cases hb : (u.bytes == []) = true
    · cases hen : u.ended with
      | true =>
        have hf : formB u = true := by simp [formB, ha, hb, hen]
        rw [unitE_form hac hlg hf]
        simp only [encU, ha, hen] at h1 e1 ⊢
        (refine ppure_of_T ok15 (by simp only [List.length_cons, List.length_nil]; decide) ?_; refine t_seq ?_)
        (have hA := And.intro e1 (And.intro l1 (And.intro l2 (hb))); have hP := And.intro h1 (True.intro); have hNE := True.intro; have hC := True.intro; repeat' first
            | with_reducible first | refine k_seq ?_ | refine t_seq ?_ | refine t_reg ?_ | refine t_nil ?_ | refine t_skip ?_ | refine t_ret ?_ | refine k_seq_ret ?_
            | refine ae_val ?_
            | refine ae_callS ?_
            | refine ae_gval ?_
            | refine ae_gno ?_
            | refine ae_box ?_
            | refine a_cond ?_ ?_
            | (with_reducible intro hc; with_reducible exact Bool.noConfusion hc)
            | (with_reducible intro hc; have hC := And.intro hC hc))
        (first | apply pend rs15 | apply pendN rs15); (focus (simp (maxDischargeDepth := 8) only [hNE, go_sem]; first | done | exact rfl)); (focus (simp (maxDischargeDepth := 8) only [hNE, go_sem]; first | done | exact rfl))
      | false =>
        have hf : formB u = false := by simp [formB, ha, hb, hen]
        by_cases hn : (u.there.length : Int) = (u.recs.length : Int)
        · have en : decide (¬ (u.there.length : Int) = (u.recs.length : Int)) = false := by simp [hn]
          have hn2 : u.there.length = u.recs.length := by omega
          obtain ⟨R, hR⟩ : ∃ R, recsL u u.recs 0 = R := ⟨_, rfl⟩
          have hrec : recsE u = if R = 0 then thereE u else R := by simp [recsE, ha, hR, hn2]
          have h53 := p53 u.pos 0 0
          have hroom : roomF u = 0 := by simp [roomF, ha]
          have hbad : ¬ R = 0 → unitE u = R := fun h => by
            have : recsE u = R := by rw [hrec, if_neg h]
            rw [unitE_rec hac hlg hf (by rw [this]; exact h), this]
          have hthr : R = 0 → thereE u = 21 → unitE u = 21 := fun h h2 => by
            have : recsE u = 21 := by rw [hrec, if_pos h, h2]
            rw [unitE_rec hac hlg hf (by rw [this]; decide), this]
          have hfin : R = 0 → thereE u = 0 → unitE u = rfs (!btw u.pos 0 0) 2 := fun h h2 => by
            rw [unitE_pos hac hlg hf (by rw [hrec, if_pos h, h2]), hroom]
          generalize unitE u = E at hfin hbad hthr ⊢
          simp only [encU, ha, hen] at h1 e1 ⊢
          (refine ppure_of_T ok15 (by simp only [List.length_cons, List.length_nil]; decide) ?_; refine t_seq ?_)
          (have hA := And.intro e1 (And.intro l1 (And.intro l2 (And.intro hb (en)))); have hP := And.intro h1 (True.intro); have hNE := True.intro; have hC := True.intro; repeat' first
              | with_reducible first | refine k_seq ?_ | refine t_seq ?_ | refine t_reg ?_ | refine t_nil ?_ | refine t_skip ?_ | refine t_block ?_
              | refine ae_val ?_
              | refine ae_callS ?_
              | refine ae_gval ?_
              | refine ae_gno ?_
              | refine ae_box ?_
              | refine a_cond ?_ ?_
              | (with_reducible intro hc; with_reducible exact Bool.noConfusion hc)
              | (with_reducible intro hc; have hC := And.intro hC hc))
          refine t_loopX (fun (k0 : Nat) (E0 : Nat → PV) (H0 : Hp) => ∃ (i : Nat), i + k0 = u.recs.length ∧ recsL u (u.recs.drop i) i = R ∧ E0 6 = .int .i64 (i : Int) ∧ H0 = hp []) (u.recs.length) ?_ ?_
          intro Ng
          refine ⟨_, _, wkE_id, rowsok_nil, 0, (by first | omega | rfl | assumption | (simp (maxDischargeDepth := 8) only [go_sem, cast0, hNE]; first | done | rfl | assumption | omega)), ?_, (by simp (maxDischargeDepth := 8) only [go_sem, cast0, hNE, List.length_append, List.length_cons, List.length_nil, Nat.zero_add]; first | done | rfl), rfl⟩
          · exact hR
          rintro k0 E0 H0 hfr0 ⟨i, hk, hr, h0_6, rfl⟩
          have e0_1 := hfr0 1 rfl; have e0_4 := hfr0 4 rfl; have e0_5 := hfr0 5 rfl
          simp (maxDischargeDepth := 8) only [go_sem, cast0, hNE] at e0_1 e0_4 e0_5
          clear hfr0
          by_cases hi : i < u.recs.length
          · obtain ⟨s, hx, hdr⟩ := at_list hi
            obtain ⟨t, hx2, hdr2⟩ := at_list (xs := u.there) (i := i) (by omega)
            have hlt := lt_int hi
            have hlt2 : (i : Int) < (u.there.length : Int) := by omega
            have hw := wrap_next hi hl
            have hge : (0 : Int) ≤ (i : Int) := by omega
            rw [hdr, recsL] at hr
            have hre : recE u s ((u.there[i]?).getD false) = rfs (decide (¬ (s.length : Int) = (if t = true then u.width else 0))) 10 := by simp [recE, ha, hx2]
            rw [hre] at hr
            cases t with
            | true =>
              by_cases h2 : (s.length : Int) = u.width
              · have h2d : decide (¬ (s.length : Int) = u.width) = false := by simp [h2]
                rw [if_pos (by simp [rfs, h2])] at hr
                (have hA := And.intro e0_1 (And.intro e0_4 (And.intro e0_5 (And.intro h0_6 (And.intro hlt (And.intro hge (And.intro hx (And.intro hx2 (And.intro hlt2 (h2d))))))))); have hP := True.intro; have hNE := True.intro; have hC := True.intro; repeat' first
                    | ((with_reducible apply te_drwA); (focus (simp (maxDischargeDepth := 8) only [effFlA, List.map_cons, List.map_nil]; exact rfl)); (focus decide +kernel))
                    | with_reducible first | refine k_seq ?_ | refine t_seq ?_ | refine t_reg ?_ | refine t_nil ?_ | refine t_skip ?_ | refine k_blk ?_ | refine t_block ?_ | refine m_nil ?_
                    | refine ae_val ?_
                    | refine ae_gval ?_
                    | refine ae_gno ?_
                    | refine be_val ?_
                    | refine be_gval ?_
                    | refine be_gno ?_
                    | refine a_cond ?_ ?_
                    | (with_reducible intro hc; with_reducible exact Bool.noConfusion hc)
                    | (with_reducible intro hc; have hC := And.intro hC hc))
                refine k_invX (k0 - 1) (by omega) ?_
                intro Ng
                refine ⟨_, _, wkE_id, rowsok_nil, i + 1, (by first | omega | (simp only [List.length_append, List.length_cons, List.length_nil, List.length_drop, List.length_take, List.length_map]; omega)), ?_, (by simp (maxDischargeDepth := 8) only [go_sem, e0_1, e0_4, e0_5, h0_6, hw, hNE, List.length_append, List.length_cons, List.length_nil, Nat.zero_add]; first | done | rfl), rfl⟩
                exact hr
              · have h2d : decide (¬ (s.length : Int) = u.width) = true := by simp [h2]
                rw [if_neg (by simp [rfs, h2])] at hr
                have hR8 : R = 10 := by rw [← hr]; simp [rfs, h2]
                have hE := hbad (by rw [hR8]; decide)
                rw [hE, hR8]
                (have hA := And.intro e0_1 (And.intro e0_4 (And.intro e0_5 (And.intro h0_6 (And.intro hlt (And.intro hge (And.intro hx (And.intro hx2 (And.intro hlt2 (h2d))))))))); have hP := True.intro; have hNE := True.intro; have hC := True.intro; repeat' first
                    | ((with_reducible apply te_drwA); (focus (simp (maxDischargeDepth := 8) only [effFlA, List.map_cons, List.map_nil]; exact rfl)); (focus decide +kernel))
                    | with_reducible first | refine k_seq ?_ | refine t_seq ?_ | refine t_reg ?_ | refine t_nil ?_ | refine t_skip ?_ | refine t_ret ?_ | refine k_seq_ret ?_ | refine k_blk_ret ?_ | refine k_invX_ret ?_ | refine t_block ?_ | refine m_nil ?_
                    | refine ae_val ?_
                    | refine ae_gval ?_
                    | refine ae_gno ?_
                    | refine be_val ?_
                    | refine be_gval ?_
                    | refine be_gskip ?_
                    | refine a_cond ?_ ?_
                    | (with_reducible intro hc; with_reducible exact Bool.noConfusion hc)
                    | (with_reducible intro hc; have hC := And.intro hC hc))
                (first | apply pend rs15 | apply pendN rs15); (focus (simp (maxDischargeDepth := 8) only [hNE, go_sem, e0_1, e0_4, e0_5, h0_6]; first | done | exact rfl)); (focus (simp (maxDischargeDepth := 8) only [hNE, go_sem, e0_1, e0_4, e0_5, h0_6]; first | done | exact rfl))
            | false =>
              by_cases h2 : s = []
              · have h2d : (s == []) = true := by simp [h2]
                rw [if_pos (by simp [rfs, h2])] at hr
                (have hA := And.intro e0_1 (And.intro e0_4 (And.intro e0_5 (And.intro h0_6 (And.intro hlt (And.intro hge (And.intro hx (And.intro hx2 (And.intro hlt2 (h2d))))))))); have hP := True.intro; have hNE := True.intro; have hC := True.intro; repeat' first
                    | ((with_reducible apply te_drwA); (focus (simp (maxDischargeDepth := 8) only [effFlA, List.map_cons, List.map_nil]; exact rfl)); (focus decide +kernel))
                    | with_reducible first | refine k_seq ?_ | refine t_seq ?_ | refine t_reg ?_ | refine t_nil ?_ | refine t_skip ?_ | refine k_blk ?_ | refine t_block ?_ | refine m_nil ?_
                    | refine ae_val ?_
                    | refine ae_gval ?_
                    | refine ae_gno ?_
                    | refine be_val ?_
                    | refine be_gval ?_
                    | refine be_gno ?_
                    | refine a_cond ?_ ?_
                    | (with_reducible intro hc; with_reducible exact Bool.noConfusion hc)
                    | (with_reducible intro hc; have hC := And.intro hC hc))
                refine k_invX (k0 - 1) (by omega) ?_
                intro Ng
                refine ⟨_, _, wkE_id, rowsok_nil, i + 1, (by first | omega | (simp only [List.length_append, List.length_cons, List.length_nil, List.length_drop, List.length_take, List.length_map]; omega)), ?_, (by simp (maxDischargeDepth := 8) only [go_sem, e0_1, e0_4, e0_5, h0_6, hw, hNE, List.length_append, List.length_cons, List.length_nil, Nat.zero_add]; first | done | rfl), rfl⟩
                exact hr
              · have h2d : (s == []) = false := by simp [h2]
                rw [if_neg (by simp [rfs, h2])] at hr
                have hR8 : R = 10 := by rw [← hr]; simp [rfs, h2]
                have hE := hbad (by rw [hR8]; decide)
                rw [hE, hR8]
                (have hA := And.intro e0_1 (And.intro e0_4 (And.intro e0_5 (And.intro h0_6 (And.intro hlt (And.intro hge (And.intro hx (And.intro hx2 (And.intro hlt2 (h2d))))))))); have hP := True.intro; have hNE := True.intro; have hC := True.intro; repeat' first
                    | ((with_reducible apply te_drwA); (focus (simp (maxDischargeDepth := 8) only [effFlA, List.map_cons, List.map_nil]; exact rfl)); (focus decide +kernel))
                    | with_reducible first | refine k_seq ?_ | refine t_seq ?_ | refine t_reg ?_ | refine t_nil ?_ | refine t_skip ?_ | refine t_ret ?_ | refine k_seq_ret ?_ | refine k_blk_ret ?_ | refine k_invX_ret ?_ | refine t_block ?_ | refine m_nil ?_
                    | refine ae_val ?_
                    | refine ae_gval ?_
                    | refine ae_gno ?_
                    | refine be_val ?_
                    | refine be_gval ?_
                    | refine be_gno ?_
                    | refine a_cond ?_ ?_
                    | (with_reducible intro hc; with_reducible exact Bool.noConfusion hc)
                    | (with_reducible intro hc; have hC := And.intro hC hc))
                (first | apply pend rs15 | apply pendN rs15); (focus (simp (maxDischargeDepth := 8) only [hNE, go_sem, e0_1, e0_4, e0_5, h0_6]; first | done | exact rfl)); (focus (simp (maxDischargeDepth := 8) only [hNE, go_sem, e0_1, e0_4, e0_5, h0_6]; first | done | exact rfl))
          · have hlt := nlt_int hi
            have hil : i = u.recs.length := by omega
            rw [hil, List.drop_length, recsL] at hr
            by_cases hz : u.there = []
            · have hth : thereE u = 0 := by simp [thereE, hz]
              have hE := hfin hr.symm hth
              have e5 : decide ((0 : Int) < (u.there.length : Int)) = false := by simp [hz]
              cases hbt : btw u.pos 0 0 with
              | true =>
                rw [hbt] at hE h53
                rw [hE]
                (have hA := And.intro e0_1 (And.intro e0_4 (And.intro e0_5 (And.intro h0_6 (And.intro hlt (e5))))); have hP := And.intro h53 (True.intro); have hNE := True.intro; have hC := True.intro; repeat' first
                    | with_reducible first | refine k_seq ?_ | refine t_seq ?_ | refine t_reg ?_ | refine t_nil ?_ | refine t_skip ?_ | refine t_ret ?_ | refine t_exit ?_ | refine k_seq_exit ?_ | refine k_blk_exit ?_ | refine k_invX_exit ?_
                    | refine ae_val ?_
                    | refine ae_callS ?_
                    | refine ae_gval ?_
                    | refine ae_gno ?_
                    | refine a_cond ?_ ?_
                    | (with_reducible intro hc; with_reducible exact Bool.noConfusion hc)
                    | (with_reducible intro hc; have hC := And.intro hC hc))
                (first | apply pend rs15 | apply pendN rs15); (focus (simp (maxDischargeDepth := 8) only [hNE, go_sem, e0_1, e0_4, e0_5, h0_6, rfs]; first | done | exact rfl)); (focus (simp (maxDischargeDepth := 8) only [hNE, go_sem, e0_1, e0_4, e0_5, h0_6, rfs]; first | done | exact rfl))
              | false =>
                rw [hbt] at hE h53
                rw [hE]
                (have hA := And.intro e0_1 (And.intro e0_4 (And.intro e0_5 (And.intro h0_6 (And.intro hlt (e5))))); have hP := And.intro h53 (True.intro); have hNE := True.intro; have hC := True.intro; repeat' first
                    | with_reducible first | refine k_seq ?_ | refine t_seq ?_ | refine t_reg ?_ | refine t_nil ?_ | refine t_skip ?_ | refine t_ret ?_ | refine t_exit ?_ | refine k_seq_exit ?_ | refine k_seq_ret ?_ | refine k_blk_exit ?_ | refine k_invX_exit ?_
                    | refine ae_val ?_
                    | refine ae_callS ?_
                    | refine ae_gval ?_
                    | refine ae_gno ?_
                    | refine a_cond ?_ ?_
                    | (with_reducible intro hc; with_reducible exact Bool.noConfusion hc)
                    | (with_reducible intro hc; have hC := And.intro hC hc))
                (first | apply pend rs15 | apply pendN rs15); (focus (simp (maxDischargeDepth := 8) only [hNE, go_sem, e0_1, e0_4, e0_5, h0_6, rfs]; first | done | exact rfl)); (focus (simp (maxDischargeDepth := 8) only [hNE, go_sem, e0_1, e0_4, e0_5, h0_6, rfs]; first | done | exact rfl))
            · obtain ⟨m, hm⟩ : ∃ m, u.there.length = m + 1 := ⟨u.there.length - 1, by have := List.length_pos_iff.2 hz; omega⟩
              have e5 : decide ((0 : Int) < (u.there.length : Int)) = true := by simp; omega
              have w5 : IntKind.i64.wrap ((u.there.length : Int) - 1) = (m : Int) := by rw [hm, IntKind.wrap_i64]; omega
              have b5 : (0 : Int) ≤ (m : Int) := by omega
              have b6 : (m : Int) < (u.there.length : Int) := by omega
              obtain ⟨t, ht⟩ : ∃ t, u.there[m]? = some t := ⟨u.there[m], List.getElem?_eq_getElem (by omega)⟩
              have hgl : u.there.getLast? = some t := by rw [List.getLast?_eq_getElem?, hm]; exact ht
              cases t with
              | true =>
                have hth : thereE u = 0 := by simp [thereE, hgl]
                have hE := hfin hr.symm hth
                cases hbt : btw u.pos 0 0 with
                | true =>
                  rw [hbt] at hE h53
                  rw [hE]
                  (have hA := And.intro e0_1 (And.intro e0_4 (And.intro e0_5 (And.intro h0_6 (And.intro hlt (And.intro e5 (And.intro w5 (And.intro b5 (And.intro b6 (ht))))))))); have hP := And.intro h53 (True.intro); have hNE := True.intro; have hC := True.intro; repeat' first
                      | with_reducible first | refine k_seq ?_ | refine t_seq ?_ | refine t_reg ?_ | refine t_nil ?_ | refine t_skip ?_ | refine t_ret ?_ | refine t_exit ?_ | refine k_seq_exit ?_ | refine k_blk_exit ?_ | refine k_invX_exit ?_
                      | refine ae_val ?_
                      | refine ae_callS ?_
                      | refine ae_gval ?_
                      | refine a_cond ?_ ?_
                      | (with_reducible intro hc; with_reducible exact Bool.noConfusion hc)
                      | (with_reducible intro hc; have hC := And.intro hC hc))
                  (first | apply pend rs15 | apply pendN rs15); (focus (simp (maxDischargeDepth := 8) only [hNE, go_sem, e0_1, e0_4, e0_5, h0_6, rfs]; first | done | exact rfl)); (focus (simp (maxDischargeDepth := 8) only [hNE, go_sem, e0_1, e0_4, e0_5, h0_6, rfs]; first | done | exact rfl))
                | false =>
                  rw [hbt] at hE h53
                  rw [hE]
                  (have hA := And.intro e0_1 (And.intro e0_4 (And.intro e0_5 (And.intro h0_6 (And.intro hlt (And.intro e5 (And.intro w5 (And.intro b5 (And.intro b6 (ht))))))))); have hP := And.intro h53 (True.intro); have hNE := True.intro; have hC := True.intro; repeat' first
                      | with_reducible first | refine k_seq ?_ | refine t_seq ?_ | refine t_reg ?_ | refine t_nil ?_ | refine t_skip ?_ | refine t_ret ?_ | refine t_exit ?_ | refine k_seq_exit ?_ | refine k_seq_ret ?_ | refine k_blk_exit ?_ | refine k_invX_exit ?_
                      | refine ae_val ?_
                      | refine ae_callS ?_
                      | refine ae_gval ?_
                      | refine a_cond ?_ ?_
                      | (with_reducible intro hc; with_reducible exact Bool.noConfusion hc)
                      | (with_reducible intro hc; have hC := And.intro hC hc))
                  (first | apply pend rs15 | apply pendN rs15); (focus (simp (maxDischargeDepth := 8) only [hNE, go_sem, e0_1, e0_4, e0_5, h0_6, rfs]; first | done | exact rfl)); (focus (simp (maxDischargeDepth := 8) only [hNE, go_sem, e0_1, e0_4, e0_5, h0_6, rfs]; first | done | exact rfl))
              | false =>
                have hE := hthr hr.symm (by simp [thereE, hgl])
                rw [hE]
                (have hA := And.intro e0_1 (And.intro e0_4 (And.intro e0_5 (And.intro h0_6 (And.intro hlt (And.intro e5 (And.intro w5 (And.intro b5 (And.intro b6 (ht))))))))); have hP := True.intro; have hNE := True.intro; have hC := True.intro; repeat' first
                    | with_reducible first | refine k_seq ?_ | refine t_seq ?_ | refine t_reg ?_ | refine t_nil ?_ | refine t_ret ?_ | refine t_exit ?_ | refine k_seq_exit ?_ | refine k_seq_ret ?_ | refine k_blk_exit ?_ | refine k_invX_exit ?_
                    | refine ae_val ?_
                    | refine ae_gval ?_
                    | refine a_cond ?_ ?_
                    | (with_reducible intro hc; with_reducible exact Bool.noConfusion hc)
                    | (with_reducible intro hc; have hC := And.intro hC hc))
                (first | apply pend rs15 | apply pendN rs15); (focus (simp (maxDischargeDepth := 8) only [hNE, go_sem, e0_1, e0_4, e0_5, h0_6]; first | done | exact rfl)); (focus (simp (maxDischargeDepth := 8) only [hNE, go_sem, e0_1, e0_4, e0_5, h0_6]; first | done | exact rfl))
        · have en : decide (¬ (u.there.length : Int) = (u.recs.length : Int)) = true := by simp [hn]
          have hrec : recsE u = 10 := by rw [recsE, if_pos ⟨ha, by omega⟩]
          have hE : unitE u = 10 := by rw [unitE_rec hac hlg hf (by rw [hrec]; decide), hrec]
          rw [hE]
          simp only [encU, ha, hen] at h1 e1 ⊢
          (refine ppure_of_T ok15 (by simp only [List.length_cons, List.length_nil]; decide) ?_; refine t_seq ?_)
          (have hA := And.intro e1 (And.intro l1 (And.intro l2 (And.intro hb (en)))); have hP := And.intro h1 (True.intro); have hNE := True.intro; have hC := True.intro; repeat' first
              | with_reducible first | refine k_seq ?_ | refine t_seq ?_ | refine t_reg ?_ | refine t_nil ?_ | refine t_skip ?_ | refine t_ret ?_ | refine k_seq_ret ?_
              | refine ae_val ?_
              | refine ae_callS ?_
              | refine ae_gval ?_
              | refine ae_gno ?_
              | refine ae_box ?_
              | refine a_cond ?_ ?_
              | (with_reducible intro hc; with_reducible exact Bool.noConfusion hc)
              | (with_reducible intro hc; have hC := And.intro hC hc))
          (first | apply pend rs15 | apply pendN rs15); (focus (simp (maxDischargeDepth := 8) only [hNE, go_sem]; first | done | exact rfl)); (focus (simp (maxDischargeDepth := 8) only [hNE, go_sem]; first | done | exact rfl))
    · have hb : (u.bytes == []) = false := by simpa using hb
      have hf : formB u = true := by simp [formB, ha, hb]
      rw [unitE_form hac hlg hf]
      simp only [encU, ha] at h1 e1 ⊢
      (refine ppure_of_T ok15 (by simp only [List.length_cons, List.length_nil]; decide) ?_; refine t_seq ?_)
      (have hA := And.intro e1 (And.intro l1 (And.intro l2 (hb))); have hP := And.intro h1 (True.intro); have hNE := True.intro; have hC := True.intro; repeat' first
          | with_reducible first | refine k_seq ?_ | refine t_seq ?_ | refine t_reg ?_ | refine t_nil ?_ | refine t_skip ?_ | refine t_ret ?_ | refine k_seq_ret ?_
          | refine ae_val ?_
          | refine ae_callS ?_
          | refine ae_gval ?_
          | refine ae_gno ?_
          | refine ae_gskip ?_
          | refine ae_box ?_
          | refine a_cond ?_ ?_
          | (with_reducible intro hc; with_reducible exact Bool.noConfusion hc)
          | (with_reducible intro hc; have hC := And.intro hC hc))
      (first | apply pend rs15 | apply pendN rs15); (focus (simp (maxDischargeDepth := 8) only [hNE, go_sem]; first | done | exact rfl)); (focus (simp (maxDischargeDepth := 8) only [hNE, go_sem]; first | done | exact rfl))
  · -- stream
    by_cases hr0 : u.recs = []
    · by_cases ht0 : u.there = []
      · cases hen : u.ended with
        | true =>
          have hf : formB u = true := by simp [formB, ha, hen]
          rw [unitE_form hac hlg hf]
          simp only [encU, ha, hen, hr0, ht0, List.map_nil] at h1 e1 ⊢
          (refine ppure_of_T ok15 (by simp only [List.length_cons, List.length_nil]; decide) ?_; refine t_seq ?_)
          (have hA := And.intro e1 (l2); have hP := And.intro h1 (True.intro); have hNE := True.intro; have hC := True.intro; repeat' first
              | with_reducible first | refine k_seq ?_ | refine t_seq ?_ | refine t_reg ?_ | refine t_nil ?_ | refine t_skip ?_ | refine t_ret ?_ | refine k_seq_ret ?_
              | refine ae_val ?_
              | refine ae_callS ?_
              | refine ae_gval ?_
              | refine ae_gno ?_
              | refine ae_box ?_
              | refine a_cond ?_ ?_
              | (with_reducible intro hc; with_reducible exact Bool.noConfusion hc)
              | (with_reducible intro hc; have hC := And.intro hC hc))
          (first | apply pend rs15 | apply pendN rs15); (focus (simp (maxDischargeDepth := 8) only [hNE, go_sem]; first | done | exact rfl)); (focus (simp (maxDischargeDepth := 8) only [hNE, go_sem]; first | done | exact rfl))
        | false =>
          have hf : formB u = false := by simp [formB, ha, hen, hr0, ht0]
          have hrec : recsE u = 0 := by simp [recsE, ha, hr0, recsL, thereE, ht0]
          have hE := unitE_pos hac hlg hf hrec
          have hroom : roomF u = (u.bytes.length : Int) := by simp [roomF, ha]
          have h53 := p53 u.pos 0 (u.bytes.length : Int)
          rw [hroom] at hE
          rw [hE]
          cases hbt : btw u.pos 0 (u.bytes.length : Int) with
          | true =>
            rw [hbt] at h53
            simp only [encU, ha, hen, hr0, ht0, List.map_nil] at h1 e1 ⊢
            (refine ppure_of_T ok15 (by simp only [List.length_cons, List.length_nil]; decide) ?_; refine t_seq ?_)
            (have hA := And.intro e1 (l2); have hP := And.intro h1 (And.intro h53 (True.intro)); have hNE := True.intro; have hC := True.intro; repeat' first
                | with_reducible first | refine k_seq ?_ | refine t_seq ?_ | refine t_reg ?_ | refine t_nil ?_ | refine t_skip ?_ | refine t_block ?_
                | refine ae_val ?_
                | refine ae_callS ?_
                | refine ae_gval ?_
                | refine ae_gno ?_
                | refine ae_box ?_
                | refine a_cond ?_ ?_
                | (with_reducible intro hc; with_reducible exact Bool.noConfusion hc)
                | (with_reducible intro hc; have hC := And.intro hC hc))
            refine t_loopX (fun (k0 : Nat) (E0 : Nat → PV) (H0 : Hp) => ∃ (i : Nat), i = 0 ∧ k0 = 0 ∧ E0 6 = .int .i64 (i : Int) ∧ H0 = hp []) (0) ?_ ?_
            intro Ng
            refine ⟨_, _, wkE_id, rowsok_nil, 0, (by first | omega | rfl | assumption | (simp (maxDischargeDepth := 8) only [go_sem, cast0, hNE]; first | done | rfl | assumption | omega)), (by first | omega | rfl | assumption | (simp (maxDischargeDepth := 8) only [go_sem, cast0, hNE]; first | done | rfl | assumption | omega)), (by simp (maxDischargeDepth := 8) only [go_sem, cast0, hNE, List.length_append, List.length_cons, List.length_nil, Nat.zero_add]; first | done | rfl), rfl⟩
            rintro k0 E0 H0 hfr0 ⟨i, hk, hk2, h0_6, rfl⟩
            have e0_1 := hfr0 1 rfl; have e0_4 := hfr0 4 rfl; have e0_5 := hfr0 5 rfl
            simp (maxDischargeDepth := 8) only [go_sem, cast0, hNE] at e0_1 e0_4 e0_5
            clear hfr0
            subst hk
            (have hA := And.intro e0_1 (And.intro e0_4 (And.intro e0_5 (h0_6))); have hP := And.intro h53 (True.intro); have hNE := True.intro; have hC := True.intro; repeat' first
                | with_reducible first | refine k_seq ?_ | refine t_seq ?_ | refine t_reg ?_ | refine t_nil ?_ | refine t_skip ?_ | refine t_ret ?_ | refine t_exit ?_ | refine k_seq_exit ?_ | refine k_blk_exit ?_ | refine k_invX_exit ?_
                | refine ae_val ?_
                | refine ae_callS ?_
                | refine ae_gval ?_
                | refine ae_gno ?_
                | refine a_cond ?_ ?_
                | (with_reducible intro hc; with_reducible exact Bool.noConfusion hc)
                | (with_reducible intro hc; have hC := And.intro hC hc))
            (first | apply pend rs15 | apply pendN rs15); (focus (simp (maxDischargeDepth := 8) only [hNE, go_sem, e0_1, e0_4, e0_5, h0_6, rfs]; first | done | exact rfl)); (focus (simp (maxDischargeDepth := 8) only [hNE, go_sem, e0_1, e0_4, e0_5, h0_6, rfs]; first | done | exact rfl))
          | false =>
            rw [hbt] at h53
            simp only [encU, ha, hen, hr0, ht0, List.map_nil] at h1 e1 ⊢
            (refine ppure_of_T ok15 (by simp only [List.length_cons, List.length_nil]; decide) ?_; refine t_seq ?_)
            (have hA := And.intro e1 (l2); have hP := And.intro h1 (And.intro h53 (True.intro)); have hNE := True.intro; have hC := True.intro; repeat' first
                | with_reducible first | refine k_seq ?_ | refine t_seq ?_ | refine t_reg ?_ | refine t_nil ?_ | refine t_skip ?_ | refine t_block ?_
                | refine ae_val ?_
                | refine ae_callS ?_
                | refine ae_gval ?_
                | refine ae_gno ?_
                | refine ae_box ?_
                | refine a_cond ?_ ?_
                | (with_reducible intro hc; with_reducible exact Bool.noConfusion hc)
                | (with_reducible intro hc; have hC := And.intro hC hc))
            refine t_loopX (fun (k0 : Nat) (E0 : Nat → PV) (H0 : Hp) => ∃ (i : Nat), i = 0 ∧ k0 = 0 ∧ E0 6 = .int .i64 (i : Int) ∧ H0 = hp []) (0) ?_ ?_
            intro Ng
            refine ⟨_, _, wkE_id, rowsok_nil, 0, (by first | omega | rfl | assumption | (simp (maxDischargeDepth := 8) only [go_sem, cast0, hNE]; first | done | rfl | assumption | omega)), (by first | omega | rfl | assumption | (simp (maxDischargeDepth := 8) only [go_sem, cast0, hNE]; first | done | rfl | assumption | omega)), (by simp (maxDischargeDepth := 8) only [go_sem, cast0, hNE, List.length_append, List.length_cons, List.length_nil, Nat.zero_add]; first | done | rfl), rfl⟩
            rintro k0 E0 H0 hfr0 ⟨i, hk, hk2, h0_6, rfl⟩
            have e0_1 := hfr0 1 rfl; have e0_4 := hfr0 4 rfl; have e0_5 := hfr0 5 rfl
            simp (maxDischargeDepth := 8) only [go_sem, cast0, hNE] at e0_1 e0_4 e0_5
            clear hfr0
            subst hk
            (have hA := And.intro e0_1 (And.intro e0_4 (And.intro e0_5 (h0_6))); have hP := And.intro h53 (True.intro); have hNE := True.intro; have hC := True.intro; repeat' first
                | with_reducible first | refine k_seq ?_ | refine t_seq ?_ | refine t_reg ?_ | refine t_nil ?_ | refine t_skip ?_ | refine t_ret ?_ | refine t_exit ?_ | refine k_seq_exit ?_ | refine k_seq_ret ?_ | refine k_blk_exit ?_ | refine k_invX_exit ?_
                | refine ae_val ?_
                | refine ae_callS ?_
                | refine ae_gval ?_
                | refine ae_gno ?_
                | refine a_cond ?_ ?_
                | (with_reducible intro hc; with_reducible exact Bool.noConfusion hc)
                | (with_reducible intro hc; have hC := And.intro hC hc))
            (first | apply pend rs15 | apply pendN rs15); (focus (simp (maxDischargeDepth := 8) only [hNE, go_sem, e0_1, e0_4, e0_5, h0_6, rfs]; first | done | exact rfl)); (focus (simp (maxDischargeDepth := 8) only [hNE, go_sem, e0_1, e0_4, e0_5, h0_6, rfs]; first | done | exact rfl))
      · have ht2 : decide (0 < (u.there.length : Int)) = true := by
          have := List.length_pos_iff.2 ht0
          simp; omega
        have hf : formB u = true := by simp [formB, ha, List.length_pos_iff.2 ht0]
        rw [unitE_form hac hlg hf]
        simp only [encU, ha, hr0, List.map_nil] at h1 e1 ⊢
        (refine ppure_of_T ok15 (by simp only [List.length_cons, List.length_nil]; decide) ?_; refine t_seq ?_)
        (have hA := And.intro e1 (And.intro l2 (ht2)); have hP := And.intro h1 (True.intro); have hNE := True.intro; have hC := True.intro; repeat' first
            | with_reducible first | refine k_seq ?_ | refine t_seq ?_ | refine t_reg ?_ | refine t_nil ?_ | refine t_skip ?_ | refine t_ret ?_ | refine k_seq_ret ?_
            | refine ae_val ?_
            | refine ae_callS ?_
            | refine ae_gval ?_
            | refine ae_gno ?_
            | refine ae_gskip ?_
            | refine ae_box ?_
            | refine a_cond ?_ ?_
            | (with_reducible intro hc; with_reducible exact Bool.noConfusion hc)
            | (with_reducible intro hc; have hC := And.intro hC hc))
        (first | apply pend rs15 | apply pendN rs15); (focus (simp (maxDischargeDepth := 8) only [hNE, go_sem]; first | done | exact rfl)); (focus (simp (maxDischargeDepth := 8) only [hNE, go_sem]; first | done | exact rfl))
    · have hr2 : decide (0 < (u.recs.length : Int)) = true := by
        have := List.length_pos_iff.2 hr0
        simp; omega
      have hf : formB u = true := by simp [formB, ha, List.length_pos_iff.2 hr0]
      rw [unitE_form hac hlg hf]
      simp only [encU, ha] at h1 e1 ⊢
      (refine ppure_of_T ok15 (by simp only [List.length_cons, List.length_nil]; decide) ?_; refine t_seq ?_)
      (have hA := And.intro e1 (And.intro l1 (And.intro l2 (hr2))); have hP := And.intro h1 (True.intro); have hNE := True.intro; have hC := True.intro; repeat' first
          | with_reducible first | refine k_seq ?_ | refine t_seq ?_ | refine t_reg ?_ | refine t_nil ?_ | refine t_skip ?_ | refine t_ret ?_ | refine k_seq_ret ?_
          | refine ae_val ?_
          | refine ae_callS ?_
          | refine ae_gval ?_
          | refine ae_gskip ?_
          | refine ae_box ?_
          | refine a_cond ?_ ?_
          | (with_reducible intro hc; with_reducible exact Bool.noConfusion hc)
          | (with_reducible intro hc; have hC := And.intro hC hc))
      (first | apply pend rs15 | apply pendN rs15); (focus (simp (maxDischargeDepth := 8) only [hNE, go_sem]; first | done | exact rfl)); (focus (simp (maxDischargeDepth := 8) only [hNE, go_sem]; first | done | exact rfl))
end Go.Proofs.Ythdgdngdfijfhaa
namespace Go.Proofs.Ythdgdngdfijfhaa
open Go.RowKit Go.Proofs
set_option linter.unusedVariables false
set_option linter.unusedSimpArgs false
attribute [local irreducible] PPure CallN Tops TopsDm T
attribute [local go_sem] Int.toNat_natCast List.length_map List.length_replicate Nat.zero_add in
theorem p51 (xs : List (List UInt8)) (hl : xs.length ≤ 1000000) : PPure Try.prog 51 [.list .any (xs.map encS)] (.list .any (xs.map encS)) := by
  have dr : List.drop xs.length (List.replicate xs.length (PV.str [])) = [] := List.drop_eq_nil_of_le (by simp)
  (refine ppure_of_T ok51 (by simp only [List.length_cons, List.length_nil]; decide) ?_; refine t_seq ?_)
  (have hA := True.intro; have hP := True.intro; have hNE := True.intro; have hC := True.intro; repeat' first
      | with_reducible first | refine k_seq ?_ | refine t_seq ?_ | refine t_reg ?_ | refine t_nil ?_ | refine t_ret ?_
      | refine ae_val ?_
      | ((with_reducible apply te_makeSlice); (focus (simp (maxDischargeDepth := 8) only [go_sem, hNE, hA]; first | done | exact rfl)); (focus (simp (maxDischargeDepth := 8) only [go_sem, hNE, hA]; first | done | exact rfl)); (focus (simp (maxDischargeDepth := 8) only [go_sem, hNE, hA]; first | done | exact rfl)); (focus (simp (maxDischargeDepth := 8) only [go_sem, hNE, hA]; first | done | exact rfl)); (focus (simp (maxDischargeDepth := 8) only [go_sem, hNE, hA]; first | done | exact rfl)); exact rfl; (focus (first | exact rfl | (simp (maxDischargeDepth := 8) only [go_sem, hNE, hA]; done))); (focus (first | omega | (simp (maxDischargeDepth := 8) only [go_sem, hNE, hA]; done))); (focus (simp (maxDischargeDepth := 8) only [go_sem, hNE, hA, roomB, List.length_take, List.length_append]; first | done | omega)); (focus omega); (intro la ha hn1; have hNE := And.intro hNE hn1))
      | ((with_reducible apply te_copy); (with_reducible exact app_22; with_reducible exact c_9); (focus (simp (maxDischargeDepth := 8) only [go_sem, hNE, hA]; first | done | exact rfl)); (focus (simp (maxDischargeDepth := 8) only [go_sem, hNE, hA]; first | done | exact rfl)); (focus (simp (maxDischargeDepth := 8) only [go_sem, hNE, hA, roomB, List.length_take, List.length_append]; first | done | omega)); (focus (simp (maxDischargeDepth := 8) only [go_sem, hNE, hA]; first | done | exact rfl)); (focus (simp (maxDischargeDepth := 8) only [go_sem, hNE, hA]; done))))
  (first | apply pend rs51 | apply pendN rs51); (focus (simp (maxDischargeDepth := 8) only [hNE, go_sem, dr, List.append_nil, List.length_map, Nat.le_refl]; first | done | exact rfl)); (focus (simp (maxDischargeDepth := 8) only [hNE, go_sem, dr, List.append_nil, List.length_map, Nat.le_refl]; first | done | exact rfl))
theorem p25 (l : List Ac) (hl : l.length ≤ 1000000) : PPure Try.prog 25 [.list .any (l.map encAc)] (.list .any (l.map encAc)) := by
  by_cases h0 : l = []
  · subst h0
    (refine ppure_of_T ok25 (by simp only [List.length_cons, List.length_nil]; decide) ?_; refine t_seq ?_)
    (have hA := True.intro; have hP := True.intro; have hNE := True.intro; have hC := True.intro; repeat' first
        | with_reducible first | refine k_seq ?_ | refine t_seq ?_ | refine t_reg ?_ | refine t_nil ?_ | refine t_ret ?_
        | refine ae_val ?_
        | ((with_reducible apply te_appendE); (with_reducible exact app_44; with_reducible exact c_57); (focus (simp (maxDischargeDepth := 8) only [go_sem, hNE, hA]; first | done | exact rfl)); (focus (simp (maxDischargeDepth := 8) only [go_sem, hNE, hA]; first | done | exact rfl)); exact rfl; (focus (first | exact rfl | (simp (maxDischargeDepth := 8) only [go_sem, hNE, hA]; done))); (focus (simp (maxDischargeDepth := 8) only [go_sem, hNE, hA]; done)); (focus (simp (maxDischargeDepth := 8) only [go_sem, hNE, hA, roomB, List.length_take, List.length_append]; first | done | omega))))
    (first | apply pend rs25 | apply pendN rs25); (focus (simp (maxDischargeDepth := 8) only [hNE, go_sem]; first | done | exact rfl)); (focus (simp (maxDischargeDepth := 8) only [hNE, go_sem]; first | done | exact rfl))
  · have he : (l.map encAc).isEmpty = false := by simpa using h0
    have hn : ¬ l.map encAc = [] := by simpa using h0
    have hb : l.length * 100 ≤ 140737488355328 := by omega
    (refine ppure_of_T ok25 (by simp only [List.length_cons, List.length_nil]; decide) ?_; refine t_seq ?_)
    (have hA := And.intro he (hn); have hP := True.intro; have hNE := True.intro; have hC := True.intro; repeat' first
        | with_reducible first | refine k_seq ?_ | refine t_seq ?_ | refine t_reg ?_ | refine t_nil ?_ | refine t_ret ?_
        | refine ae_val ?_
        | ((with_reducible apply te_appendL); (with_reducible exact app_44; with_reducible exact c_57); (focus (simp (maxDischargeDepth := 8) only [go_sem, hNE, hA]; first | done | exact rfl)); (focus (simp (maxDischargeDepth := 8) only [go_sem, hNE, hA]; first | done | exact rfl)); exact rfl; (focus (first | exact rfl | (simp (maxDischargeDepth := 8) only [go_sem, hNE, hA]; done))); (focus (simp (maxDischargeDepth := 8) only [go_sem, hNE, hA]; done)); (focus (simp (maxDischargeDepth := 8) only [go_sem, hNE, hA]; done)); (focus (simp (maxDischargeDepth := 8) only [go_sem, hNE, hA, roomB, List.length_take, List.length_append]; first | done | omega)); (intro la ha hn1; have hNE := And.intro hNE hn1)))
    (first | apply pend rs25 | apply pendN rs25); (focus (simp (maxDischargeDepth := 8) only [hNE, go_sem]; first | done | exact rfl)); (focus (simp (maxDischargeDepth := 8) only [hNE, go_sem]; first | done | exact rfl))
theorem p34 (l : List Ev) (hl : l.length ≤ 1000000) : PPure Try.prog 34 [.list .any (l.map encEv)] (.list .any (l.map encEv)) := by
  by_cases h0 : l = []
  · subst h0
    (refine ppure_of_T ok34 (by simp only [List.length_cons, List.length_nil]; decide) ?_; refine t_seq ?_)
    (have hA := True.intro; have hP := True.intro; have hNE := True.intro; have hC := True.intro; repeat' first
        | with_reducible first | refine k_seq ?_ | refine t_seq ?_ | refine t_reg ?_ | refine t_nil ?_ | refine t_ret ?_
        | refine ae_val ?_
        | ((with_reducible apply te_appendE); (with_reducible exact app_67; with_reducible exact c_71); (focus (simp (maxDischargeDepth := 8) only [go_sem, hNE, hA]; first | done | exact rfl)); (focus (simp (maxDischargeDepth := 8) only [go_sem, hNE, hA]; first | done | exact rfl)); exact rfl; (focus (first | exact rfl | (simp (maxDischargeDepth := 8) only [go_sem, hNE, hA]; done))); (focus (simp (maxDischargeDepth := 8) only [go_sem, hNE, hA]; done)); (focus (simp (maxDischargeDepth := 8) only [go_sem, hNE, hA, roomB, List.length_take, List.length_append]; first | done | omega))))
    (first | apply pend rs34 | apply pendN rs34); (focus (simp (maxDischargeDepth := 8) only [hNE, go_sem]; first | done | exact rfl)); (focus (simp (maxDischargeDepth := 8) only [hNE, go_sem]; first | done | exact rfl))
  · have he : (l.map encEv).isEmpty = false := by simpa using h0
    have hn : ¬ l.map encEv = [] := by simpa using h0
    have hb : l.length * 100 ≤ 140737488355328 := by omega
    (refine ppure_of_T ok34 (by simp only [List.length_cons, List.length_nil]; decide) ?_; refine t_seq ?_)
    (have hA := And.intro he (hn); have hP := True.intro; have hNE := True.intro; have hC := True.intro; repeat' first
        | with_reducible first | refine k_seq ?_ | refine t_seq ?_ | refine t_reg ?_ | refine t_nil ?_ | refine t_ret ?_
        | refine ae_val ?_
        | ((with_reducible apply te_appendL); (with_reducible exact app_67; with_reducible exact c_71); (focus (simp (maxDischargeDepth := 8) only [go_sem, hNE, hA]; first | done | exact rfl)); (focus (simp (maxDischargeDepth := 8) only [go_sem, hNE, hA]; first | done | exact rfl)); exact rfl; (focus (first | exact rfl | (simp (maxDischargeDepth := 8) only [go_sem, hNE, hA]; done))); (focus (simp (maxDischargeDepth := 8) only [go_sem, hNE, hA]; done)); (focus (simp (maxDischargeDepth := 8) only [go_sem, hNE, hA]; done)); (focus (simp (maxDischargeDepth := 8) only [go_sem, hNE, hA, roomB, List.length_take, List.length_append]; first | done | omega)); (intro la ha hn1; have hNE := And.intro hNE hn1)))
    (first | apply pend rs34 | apply pendN rs34); (focus (simp (maxDischargeDepth := 8) only [hNE, go_sem]; first | done | exact rfl)); (focus (simp (maxDischargeDepth := 8) only [hNE, go_sem]; first | done | exact rfl))
theorem p14 (u : Un) (hl : u.recs.length ≤ 1000000) (hl2 : u.there.length ≤ 1000000) : PPure Try.prog 14 [encU u] (encU u) := by
  have h1 := p51 u.recs hl
  simp only [encU]
  by_cases h0 : u.there = []
  · simp only [h0, List.map_nil]
    (refine ppure_of_T ok14 (by simp only [List.length_cons, List.length_nil]; decide) ?_; refine t_seq ?_)
    (have hA := True.intro; have hP := And.intro h1 (True.intro); have hNE := True.intro; have hC := True.intro; repeat' first
        | with_reducible first | refine k_seq ?_ | refine t_seq ?_ | refine t_reg ?_ | refine t_nil ?_ | refine t_ret ?_
        | refine ae_val ?_
        | refine ae_callS ?_
        | ((with_reducible apply te_appendE); (with_reducible exact app_23; with_reducible exact c_4); (focus (simp (maxDischargeDepth := 8) only [go_sem, hNE, hA]; first | done | exact rfl)); (focus (simp (maxDischargeDepth := 8) only [go_sem, hNE, hA]; first | done | exact rfl)); exact rfl; (focus (first | exact rfl | (simp (maxDischargeDepth := 8) only [go_sem, hNE, hA]; done))); (focus (simp (maxDischargeDepth := 8) only [go_sem, hNE, hA]; done)); (focus (simp (maxDischargeDepth := 8) only [go_sem, hNE, hA, roomB, List.length_take, List.length_append]; first | done | omega)))
        | (refine ae_boxL ?_; intro la ha hn1; have hNE := And.intro hNE hn1)
        | (refine ae_alloc ?_; intro la ha hn1; have hNE := And.intro hNE hn1)
        | refine ae_store ?_)
    (first | apply pend rs14 | apply pendN rs14); (focus (simp (maxDischargeDepth := 8) only [hNE, go_sem]; first | done | exact rfl)); (focus (simp (maxDischargeDepth := 8) only [hNE, go_sem]; first | done | exact rfl))
  · have he : (u.there.map encB).isEmpty = false := by simpa using h0
    have hn : ¬ u.there.map encB = [] := by simpa using h0
    (refine ppure_of_T ok14 (by simp only [List.length_cons, List.length_nil]; decide) ?_; refine t_seq ?_)
    (have hA := And.intro he (hn); have hP := And.intro h1 (True.intro); have hNE := True.intro; have hC := True.intro; repeat' first
        | with_reducible first | refine k_seq ?_ | refine t_seq ?_ | refine t_reg ?_ | refine t_nil ?_ | refine t_ret ?_
        | refine ae_val ?_
        | refine ae_callS ?_
        | ((with_reducible apply te_appendL); (with_reducible exact app_23; with_reducible exact c_4); (focus (simp (maxDischargeDepth := 8) only [go_sem, hNE, hA]; first | done | exact rfl)); (focus (simp (maxDischargeDepth := 8) only [go_sem, hNE, hA]; first | done | exact rfl)); exact rfl; (focus (first | exact rfl | (simp (maxDischargeDepth := 8) only [go_sem, hNE, hA]; done))); (focus (simp (maxDischargeDepth := 8) only [go_sem, hNE, hA]; done)); (focus (simp (maxDischargeDepth := 8) only [go_sem, hNE, hA]; done)); (focus (simp (maxDischargeDepth := 8) only [go_sem, hNE, hA, roomB, List.length_take, List.length_append]; first | done | omega)); (intro la ha hn1; have hNE := And.intro hNE hn1))
        | (refine ae_boxL ?_; intro la ha hn1; have hNE := And.intro hNE hn1)
        | (refine ae_alloc ?_; intro la ha hn1; have hNE := And.intro hNE hn1)
        | refine ae_store ?_)
    (first | apply pend rs14 | apply pendN rs14); (focus (simp (maxDischargeDepth := 8) only [hNE, go_sem]; first | done | exact rfl)); (focus (simp (maxDischargeDepth := 8) only [hNE, go_sem]; first | done | exact rfl))
def sameT (a b : List (List UInt8)) (i : Nat) : Bool := decide ((a.length : Int) = (b.length : Int)) && (a.take i == b.take i)
theorem sameT_next {a b : List (List UInt8)} {i : Nat} (h : sameT a b i = false) : sameT a b (i + 1) = false := by
  unfold sameT at h ⊢
  cases hd : decide ((a.length : Int) = (b.length : Int)) with
  | false => rfl
  | true =>
    rw [hd] at h
    rw [Bool.true_and] at h ⊢
    simp only [beq_eq_false_iff_ne, ne_eq] at h ⊢
    intro e
    apply h
    have := congrArg (List.take i) e
    simpa [List.take_take, Nat.min_eq_left (Nat.le_succ i)] using this
theorem sameT_at {a b : List (List UInt8)} {i : Nat} {x y : List UInt8} (h : sameT a b i = true) (hx : a[i]? = some x) (hy : b[i]? = some y) : sameT a b (i + 1) = (x == y) := by
  unfold sameT at h ⊢
  simp only [Bool.and_eq_true, beq_iff_eq] at h
  rw [h.1, Bool.true_and, List.take_add_one, List.take_add_one, hx, hy, h.2]
  cases hb : (x == y) with
  | true => have := eq_of_beq hb; subst this; simp
  | false => simp only [beq_eq_false_iff_ne, ne_eq] at hb ⊢; intro e; apply hb; simpa using e
theorem sameT_end {a b : List (List UInt8)} : sameT a b a.length = (a == b) := by
  unfold sameT
  by_cases h : a.length = b.length
  · rw [decide_eq_true (by omega), Bool.true_and, List.take_length, h, List.take_length]
  · rw [decide_eq_false (by omega), Bool.false_and]
    symm
    simp only [beq_eq_false_iff_ne, ne_eq]
    exact fun e => h (by rw [e])
attribute [local go_sem] encS Int.toNat_natCast List.getElem?_map Option.map_some in
theorem p47 (a b : List (List UInt8)) (hl : a.length ≤ 1000) : PPure Try.prog 47 [.list .any (a.map encS), .list .any (b.map encS)] (.bool (a == b)) := by
  have h0 : sameT a b 0 = decide ((a.length : Int) = (b.length : Int)) := by simp [sameT]
  have hend := sameT_end (a := a) (b := b)
  (refine ppure_of_T ok47 (by simp only [List.length_cons, List.length_nil]; decide) ?_; refine t_seq ?_)
  (have hA := True.intro; have hP := True.intro; have hNE := True.intro; have hC := True.intro; repeat' first
      | with_reducible first | refine k_seq ?_ | refine t_seq ?_ | refine t_reg ?_ | refine t_nil ?_ | refine t_block ?_
      | refine ae_val ?_)
  refine t_loopX (fun (k0 : Nat) (E0 : Nat → PV) (H0 : Hp) => ∃ (i : Nat), i + k0 = a.length ∧ E0 5 = .bool (sameT a b i) ∧ E0 14 = .int .i64 (i : Int) ∧ H0 = hp []) (a.length) ?_ ?_
  intro Ng
  refine ⟨_, _, wkE_id, rowsok_nil, 0, (by first | omega | rfl | assumption | (simp (maxDischargeDepth := 8) only [go_sem, cast0, h0, hNE]; first | done | rfl | assumption | omega)), (by simp (maxDischargeDepth := 8) only [go_sem, cast0, h0, hNE, List.length_append, List.length_cons, List.length_nil, Nat.zero_add]; first | done | rfl), (by simp (maxDischargeDepth := 8) only [go_sem, cast0, h0, hNE, List.length_append, List.length_cons, List.length_nil, Nat.zero_add]; first | done | rfl), rfl⟩
  rintro k0 E0 H0 hfr0 ⟨i, hk, h0_5, h0_14, rfl⟩
  have e0_0 := hfr0 0 rfl; have e0_1 := hfr0 1 rfl; have e0_4 := hfr0 4 rfl; have e0_13 := hfr0 13 rfl
  simp (maxDischargeDepth := 8) only [go_sem, cast0, h0, hNE] at e0_0 e0_1 e0_4 e0_13
  clear hfr0
  by_cases hi : i < a.length
  · obtain ⟨x, hx, hdr⟩ := at_list hi
    have hlt := lt_int hi
    have hw := wrap_next hi hl
    have hge : (0 : Int) ≤ (i : Int) := by omega
    cases hst : sameT a b i with
    | false =>
      have hn := sameT_next hst
      (have hA := And.intro e0_0 (And.intro e0_1 (And.intro e0_4 (And.intro e0_13 (And.intro h0_5 (And.intro h0_14 (And.intro hlt (And.intro hge (And.intro hx (hst))))))))); have hP := True.intro; have hNE := True.intro; have hC := True.intro; repeat' first
          | ((with_reducible apply te_drwA); (focus (simp (maxDischargeDepth := 8) only [effFlA, List.map_cons, List.map_nil]; exact rfl)); (focus decide +kernel))
          | with_reducible first | refine k_seq ?_ | refine t_seq ?_ | refine t_reg ?_ | refine t_nil ?_ | refine t_skip ?_ | refine k_blk ?_ | refine t_block ?_ | refine m_nil ?_
          | refine ae_val ?_
          | refine be_val ?_
          | refine be_gval ?_
          | refine be_gno ?_
          | refine a_cond ?_ ?_
          | (with_reducible intro hc; with_reducible exact Bool.noConfusion hc)
          | (with_reducible intro hc; have hC := And.intro hC hc))
      refine k_invX (k0 - 1) (by omega) ?_
      intro Ng
      refine ⟨_, _, wkE_id, rowsok_nil, i + 1, (by first | omega | (simp only [List.length_append, List.length_cons, List.length_nil, List.length_drop, List.length_take, List.length_map]; omega)), (by simp (maxDischargeDepth := 8) only [go_sem, e0_0, e0_1, e0_4, e0_13, h0_5, h0_14, hw, hn, hNE, List.length_append, List.length_cons, List.length_nil, Nat.zero_add]; first | done | rfl), (by simp (maxDischargeDepth := 8) only [go_sem, e0_0, e0_1, e0_4, e0_13, h0_5, h0_14, hw, hn, hNE, List.length_append, List.length_cons, List.length_nil, Nat.zero_add]; first | done | rfl), rfl⟩
    | true =>
      have hbl : (a.length : Int) = (b.length : Int) := by
        unfold sameT at hst; simp at hst; omega
      obtain ⟨y, hy, hdr2⟩ := at_list (xs := b) (i := i) (by omega)
      have hlt2 : (i : Int) < (b.length : Int) := by omega
      have hn := sameT_at hst hx hy
      (have hA := And.intro e0_0 (And.intro e0_1 (And.intro e0_4 (And.intro e0_13 (And.intro h0_5 (And.intro h0_14 (And.intro hlt (And.intro hge (And.intro hx (And.intro hst (And.intro hy (hlt2))))))))))); have hP := True.intro; have hNE := True.intro; have hC := True.intro; repeat' first
          | ((with_reducible apply te_drwA); (focus (simp (maxDischargeDepth := 8) only [effFlA, List.map_cons, List.map_nil]; exact rfl)); (focus decide +kernel))
          | with_reducible first | refine k_seq ?_ | refine t_seq ?_ | refine t_reg ?_ | refine t_nil ?_ | refine t_skip ?_ | refine k_blk ?_ | refine t_block ?_ | refine m_nil ?_
          | refine ae_val ?_
          | refine be_val ?_
          | refine be_gval ?_
          | refine a_cond ?_ ?_
          | (with_reducible intro hc; with_reducible exact Bool.noConfusion hc)
          | (with_reducible intro hc; have hC := And.intro hC hc))
      refine k_invX (k0 - 1) (by omega) ?_
      intro Ng
      refine ⟨_, _, wkE_id, rowsok_nil, i + 1, (by first | omega | (simp only [List.length_append, List.length_cons, List.length_nil, List.length_drop, List.length_take, List.length_map]; omega)), (by simp (maxDischargeDepth := 8) only [go_sem, e0_0, e0_1, e0_4, e0_13, h0_5, h0_14, hw, hn, hNE, List.length_append, List.length_cons, List.length_nil, Nat.zero_add]; first | done | rfl), (by simp (maxDischargeDepth := 8) only [go_sem, e0_0, e0_1, e0_4, e0_13, h0_5, h0_14, hw, hn, hNE, List.length_append, List.length_cons, List.length_nil, Nat.zero_add]; first | done | rfl), rfl⟩
  · have hlt := nlt_int hi
    have hil : i = a.length := by omega
    subst hil
    (have hA := And.intro e0_0 (And.intro e0_1 (And.intro e0_4 (And.intro e0_13 (And.intro h0_5 (And.intro h0_14 (hlt)))))); have hP := True.intro; have hNE := True.intro; have hC := True.intro; repeat' first
        | with_reducible first | refine k_seq ?_ | refine t_seq ?_ | refine t_reg ?_ | refine t_nil ?_ | refine t_ret ?_ | refine t_exit ?_ | refine k_seq_exit ?_ | refine k_blk_exit ?_ | refine k_invX_exit ?_
        | refine ae_val ?_
        | refine a_cond ?_ ?_
        | (with_reducible intro hc; with_reducible exact Bool.noConfusion hc)
        | (with_reducible intro hc; have hC := And.intro hC hc))
    (first | apply pend rs47 | apply pendN rs47); (focus (simp only [go_sem, e0_0, e0_1, e0_4, e0_13, h0_5, h0_14, hend]; first | done | exact rfl)); (focus (simp only [go_sem, e0_0, e0_1, e0_4, e0_13, h0_5, h0_14, hend]; first | done | exact rfl))
theorem e_59 : flatEq Try.prog 59 = some [.i .i64, .s, .i .i64] := by kernel_rfl
theorem e_71 : flatEq Try.prog 71 = some [.i .i64, .i .i64, .s] := by kernel_rfl
attribute [go_sem] e_59 e_71 PV.ck cellsEq
end Go.Proofs.Ythdgdngdfijfhaa
namespace Go.Proofs.Ythdgdngdfijfhaa
open Go.RowKit Go.Proofs
set_option linter.unusedVariables false
set_option linter.unusedSimpArgs false
attribute [local irreducible] PPure CallN Tops TopsDm T
def sizeR (n : Nat) (x : Ev) : Nat := if (sizeF n x).2 = 0 then sizeN n x else 0
theorem evE_if (n : Nat) (x : Ev) : evE n x = if (!btw x.kind 0 2) = true then 15 else if ev2B x = true then 3 else if (!btw x.pos 0 n) = true then 2 else 0 := by
  unfold evE ev1 ev2 ev3
  exact orE3 _ _ _ _ _ _ (by decide) (by decide) (by decide)
attribute [local go_sem] cast0 pvMinMax Int.add_zero List.length_nil in
set_option maxHeartbeats 2000000 in
theorem p79 (n : Nat) (x : Ev) (hn : n ≤ 20000) (hb : x.bytes.length ≤ 140737488355328) : PPure Try.prog 79 [.int .i64 (n : Int), encEv x] (.tup [.int .i64 (sizeR n x : Int), .int .i64 (sizeF n x).2]) := by
  have h1 := p53 x.kind 0 2
  have h2 := p53 x.pos 0 n
  have hif := evE_if n x
  cases hk : btw x.kind 0 2 with
  | false =>
    rw [hk] at h1 hif
    have e0 : evE n x = 15 := by rw [hif]; rfl
    have e1 : sizeF n x = (0, 15) := by rw [sizeF, if_neg (by rw [e0]; decide), e0]
    have e2 : sizeR n x = 0 := by rw [sizeR, e1]; rfl
    rw [e1, e2]
    simp only [encEv]
    (refine ppure_of_T ok79 (by simp only [List.length_cons, List.length_nil]; decide) ?_; refine t_seq ?_)
    (have hA := True.intro; have hP := And.intro h1 (True.intro); have hNE := True.intro; have hC := True.intro; repeat' first
        | with_reducible first | refine k_seq ?_ | refine t_seq ?_ | refine t_reg ?_ | refine t_nil ?_ | refine t_ret ?_ | refine k_seq_ret ?_
        | refine ae_val ?_
        | refine ae_callS ?_
        | refine ae_box ?_
        | refine a_cond ?_ ?_
        | (with_reducible intro hc; with_reducible exact Bool.noConfusion hc)
        | (with_reducible intro hc; have hC := And.intro hC hc))
    (first | apply pend rs79 | apply pendN rs79); (focus (simp (maxDischargeDepth := 8) only [hNE, go_sem, cast0]; first | done | exact rfl)); (focus (simp (maxDischargeDepth := 8) only [hNE, go_sem, cast0]; first | done | exact rfl))
  | true =>
    rw [hk] at h1 hif
    rw [if_neg (by decide)] at hif
    have hkk := hk
    rw [btw_true] at hkk
    have hk3 : x.kind = 0 ∨ x.kind = 1 ∨ x.kind = 2 := by omega
    cases h2b : ev2B x with
    | true =>
      rw [h2b, if_pos rfl] at hif
      have e1 : sizeF n x = (0, 3) := by rw [sizeF, if_neg (by rw [hif]; decide), hif]
      have e2 : sizeR n x = 0 := by rw [sizeR, e1]; rfl
      rw [e1, e2]
      unfold ev2B at h2b
      rcases hk3 with hk0 | hk0 | hk0
      · have hbb : (x.bytes == []) = true := by simpa [hk0] using h2b
        simp only [encEv, hk0] at h1 ⊢
        (refine ppure_of_T ok79 (by simp only [List.length_cons, List.length_nil]; decide) ?_; refine t_seq ?_)
        (have hA := hbb; have hP := And.intro h1 (True.intro); have hNE := True.intro; have hC := True.intro; repeat' first
            | with_reducible first | refine k_seq ?_ | refine t_seq ?_ | refine t_reg ?_ | refine t_nil ?_ | refine t_skip ?_ | refine t_ret ?_ | refine k_seq_ret ?_
            | refine ae_val ?_
            | refine ae_callS ?_
            | refine ae_gval ?_
            | refine ae_gskip ?_
            | refine ae_box ?_
            | refine a_cond ?_ ?_
            | (with_reducible intro hc; with_reducible exact Bool.noConfusion hc)
            | (with_reducible intro hc; have hC := And.intro hC hc))
        (first | apply pend rs79 | apply pendN rs79); (focus (simp (maxDischargeDepth := 8) only [hNE, go_sem, cast0]; first | done | exact rfl)); (focus (simp (maxDischargeDepth := 8) only [hNE, go_sem, cast0]; first | done | exact rfl))
      · have hbb : (x.bytes == []) = false := by simpa [hk0] using h2b
        simp only [encEv, hk0] at h1 ⊢
        (refine ppure_of_T ok79 (by simp only [List.length_cons, List.length_nil]; decide) ?_; refine t_seq ?_)
        (have hA := hbb; have hP := And.intro h1 (True.intro); have hNE := True.intro; have hC := True.intro; repeat' first
            | with_reducible first | refine k_seq ?_ | refine t_seq ?_ | refine t_reg ?_ | refine t_nil ?_ | refine t_skip ?_ | refine t_ret ?_ | refine k_seq_ret ?_
            | refine ae_val ?_
            | refine ae_callS ?_
            | refine ae_gval ?_
            | refine ae_gskip ?_
            | refine ae_box ?_
            | refine a_cond ?_ ?_
            | (with_reducible intro hc; with_reducible exact Bool.noConfusion hc)
            | (with_reducible intro hc; have hC := And.intro hC hc))
        (first | apply pend rs79 | apply pendN rs79); (focus (simp (maxDischargeDepth := 8) only [hNE, go_sem, cast0]; first | done | exact rfl)); (focus (simp (maxDischargeDepth := 8) only [hNE, go_sem, cast0]; first | done | exact rfl))
      · cases hbb : (x.bytes == []) with
        | false =>
          simp only [encEv, hk0] at h1 ⊢
          (refine ppure_of_T ok79 (by simp only [List.length_cons, List.length_nil]; decide) ?_; refine t_seq ?_)
          (have hA := hbb; have hP := And.intro h1 (True.intro); have hNE := True.intro; have hC := True.intro; repeat' first
              | with_reducible first | refine k_seq ?_ | refine t_seq ?_ | refine t_reg ?_ | refine t_nil ?_ | refine t_skip ?_ | refine t_ret ?_ | refine k_seq_ret ?_
              | refine ae_val ?_
              | refine ae_callS ?_
              | refine ae_gval ?_
              | refine ae_gskip ?_
              | refine ae_box ?_
              | refine a_cond ?_ ?_
              | (with_reducible intro hc; with_reducible exact Bool.noConfusion hc)
              | (with_reducible intro hc; have hC := And.intro hC hc))
          (first | apply pend rs79 | apply pendN rs79); (focus (simp (maxDischargeDepth := 8) only [hNE, go_sem, cast0]; first | done | exact rfl)); (focus (simp (maxDischargeDepth := 8) only [hNE, go_sem, cast0]; first | done | exact rfl))
        | true =>
          have hp : decide (¬ x.pos = 0) = true := by simpa [hk0, hbb] using h2b
          simp only [encEv, hk0] at h1 ⊢
          (refine ppure_of_T ok79 (by simp only [List.length_cons, List.length_nil]; decide) ?_; refine t_seq ?_)
          (have hA := And.intro hbb (hp); have hP := And.intro h1 (True.intro); have hNE := True.intro; have hC := True.intro; repeat' first
              | with_reducible first | refine k_seq ?_ | refine t_seq ?_ | refine t_reg ?_ | refine t_nil ?_ | refine t_skip ?_ | refine t_ret ?_ | refine k_seq_ret ?_
              | refine ae_val ?_
              | refine ae_callS ?_
              | refine ae_gval ?_
              | refine ae_box ?_
              | refine a_cond ?_ ?_
              | (with_reducible intro hc; with_reducible exact Bool.noConfusion hc)
              | (with_reducible intro hc; have hC := And.intro hC hc))
          (first | apply pend rs79 | apply pendN rs79); (focus (simp (maxDischargeDepth := 8) only [hNE, go_sem, cast0]; first | done | exact rfl)); (focus (simp (maxDischargeDepth := 8) only [hNE, go_sem, cast0]; first | done | exact rfl))
    | false =>
      rw [h2b, if_neg (by decide)] at hif
      unfold ev2B at h2b
      cases hpb : btw x.pos 0 n with
      | false =>
        rw [hpb] at h2 hif
        have e0 : evE n x = 2 := by rw [hif]; rfl
        have e1 : sizeF n x = (0, 2) := by rw [sizeF, if_neg (by rw [e0]; decide), e0]
        have e2 : sizeR n x = 0 := by rw [sizeR, e1]; rfl
        rw [e1, e2]
        rcases hk3 with hk0 | hk0 | hk0
        · have hbb : (x.bytes == []) = false := by simpa [hk0] using h2b
          simp only [encEv, hk0] at h1 ⊢
          (refine ppure_of_T ok79 (by simp only [List.length_cons, List.length_nil]; decide) ?_; refine t_seq ?_)
          (have hA := hbb; have hP := And.intro h1 (And.intro h2 (True.intro)); have hNE := True.intro; have hC := True.intro; repeat' first
              | with_reducible first | refine k_seq ?_ | refine t_seq ?_ | refine t_reg ?_ | refine t_nil ?_ | refine t_skip ?_ | refine t_ret ?_ | refine k_seq_ret ?_
              | refine ae_val ?_
              | refine ae_callS ?_
              | refine ae_gval ?_
              | refine ae_gno ?_
              | refine ae_box ?_
              | refine a_cond ?_ ?_
              | (with_reducible intro hc; with_reducible exact Bool.noConfusion hc)
              | (with_reducible intro hc; have hC := And.intro hC hc))
          (first | apply pend rs79 | apply pendN rs79); (focus (simp (maxDischargeDepth := 8) only [hNE, go_sem, cast0]; first | done | exact rfl)); (focus (simp (maxDischargeDepth := 8) only [hNE, go_sem, cast0]; first | done | exact rfl))
        · have hbb : (x.bytes == []) = true := by simpa [hk0] using h2b
          simp only [encEv, hk0] at h1 ⊢
          (refine ppure_of_T ok79 (by simp only [List.length_cons, List.length_nil]; decide) ?_; refine t_seq ?_)
          (have hA := hbb; have hP := And.intro h1 (And.intro h2 (True.intro)); have hNE := True.intro; have hC := True.intro; repeat' first
              | with_reducible first | refine k_seq ?_ | refine t_seq ?_ | refine t_reg ?_ | refine t_nil ?_ | refine t_skip ?_ | refine t_ret ?_ | refine k_seq_ret ?_
              | refine ae_val ?_
              | refine ae_callS ?_
              | refine ae_gval ?_
              | refine ae_gno ?_
              | refine ae_box ?_
              | refine a_cond ?_ ?_
              | (with_reducible intro hc; with_reducible exact Bool.noConfusion hc)
              | (with_reducible intro hc; have hC := And.intro hC hc))
          (first | apply pend rs79 | apply pendN rs79); (focus (simp (maxDischargeDepth := 8) only [hNE, go_sem, cast0]; first | done | exact rfl)); (focus (simp (maxDischargeDepth := 8) only [hNE, go_sem, cast0]; first | done | exact rfl))
        · have hbb : (x.bytes == []) = true := by simp [hk0] at h2b; simp [h2b.1]
          have hp : decide (¬ x.pos = 0) = false := by simp [hk0] at h2b; simp [h2b.2]
          simp only [encEv, hk0] at h1 ⊢
          (refine ppure_of_T ok79 (by simp only [List.length_cons, List.length_nil]; decide) ?_; refine t_seq ?_)
          (have hA := And.intro hbb (hp); have hP := And.intro h1 (And.intro h2 (True.intro)); have hNE := True.intro; have hC := True.intro; repeat' first
              | with_reducible first | refine k_seq ?_ | refine t_seq ?_ | refine t_reg ?_ | refine t_nil ?_ | refine t_skip ?_ | refine t_ret ?_ | refine k_seq_ret ?_
              | refine ae_val ?_
              | refine ae_callS ?_
              | refine ae_gval ?_
              | refine ae_box ?_
              | refine a_cond ?_ ?_
              | (with_reducible intro hc; with_reducible exact Bool.noConfusion hc)
              | (with_reducible intro hc; have hC := And.intro hC hc))
          (first | apply pend rs79 | apply pendN rs79); (focus (simp (maxDischargeDepth := 8) only [hNE, go_sem, cast0]; first | done | exact rfl)); (focus (simp (maxDischargeDepth := 8) only [hNE, go_sem, cast0]; first | done | exact rfl))
      | true =>
        rw [hpb] at h2 hif
        have e0 : evE n x = 0 := by rw [hif]; rfl
        have e1 : sizeF n x = (sizeN n x, rfs (decide (20000 < sizeN n x)) 8) := by rw [sizeF, if_pos e0]
        have hpp := hpb
        rw [btw_true] at hpp
        obtain ⟨p, hp⟩ : ∃ p : Nat, x.pos = (p : Int) := ⟨x.pos.toNat, by omega⟩
        have hpn : x.pos.toNat = p := by omega
        have w1 : IntKind.i64.wrap ((p : Int) + (x.bytes.length : Int)) = ((p + x.bytes.length : Nat) : Int) := by rw [IntKind.wrap_i64]; omega
        rcases hk3 with hk0 | hk0 | hk0
        · have hbb : (x.bytes == []) = false := by simpa [hk0] using h2b
          have sn : sizeN n x = max n (p + x.bytes.length) := by simp [sizeN, hk0, hpn]
          by_cases hlg : 20000 < p + x.bytes.length
          · have e3 : sizeF n x = (sizeN n x, 8) := by rw [e1, sn]; simp [rfs]; omega
            have e2 : sizeR n x = 0 := by rw [sizeR, e3]; rfl
            have e4 : decide ((20000 : Int) < ((p + x.bytes.length : Nat) : Int)) = true := by simp; omega
            rw [e3, e2]
            simp only [encEv, hk0, hp] at h1 h2 ⊢
            (refine ppure_of_T ok79 (by simp only [List.length_cons, List.length_nil]; decide) ?_; refine t_seq ?_)
            (have hA := And.intro hbb (And.intro w1 (e4)); have hP := And.intro h1 (And.intro h2 (True.intro)); have hNE := True.intro; have hC := True.intro; repeat' first
                | with_reducible first | refine k_seq ?_ | refine t_seq ?_ | refine t_reg ?_ | refine t_nil ?_ | refine t_skip ?_ | refine t_ret ?_ | refine k_seq_ret ?_
                | refine ae_val ?_
                | refine ae_callS ?_
                | refine ae_gval ?_
                | refine ae_gno ?_
                | refine ae_box ?_
                | refine a_cond ?_ ?_
                | (with_reducible intro hc; with_reducible exact Bool.noConfusion hc)
                | (with_reducible intro hc; have hC := And.intro hC hc))
            (first | apply pend rs79 | apply pendN rs79); (focus (simp (maxDischargeDepth := 8) only [hNE, go_sem, cast0]; first | done | exact rfl)); (focus (simp (maxDischargeDepth := 8) only [hNE, go_sem, cast0]; first | done | exact rfl))
          · have e3 : sizeF n x = (sizeN n x, 0) := by rw [e1, sn]; simp [rfs]; omega
            have e2 : sizeR n x = sizeN n x := by rw [sizeR, e3]; rfl
            have e4 : decide ((20000 : Int) < ((p + x.bytes.length : Nat) : Int)) = false := by simp; omega
            have mx : (if (n : Int) < ((p + x.bytes.length : Nat) : Int) then ((p + x.bytes.length : Nat) : Int) else (n : Int)) = (sizeN n x : Int) := by rw [sn]; split <;> omega
            rw [e3, e2]
            simp only [encEv, hk0, hp] at h1 h2 ⊢
            (refine ppure_of_T ok79 (by simp only [List.length_cons, List.length_nil]; decide) ?_; refine t_seq ?_)
            (have hA := And.intro hbb (And.intro w1 (And.intro e4 (mx))); have hP := And.intro h1 (And.intro h2 (True.intro)); have hNE := True.intro; have hC := True.intro; repeat' first
                | with_reducible first | refine k_seq ?_ | refine t_seq ?_ | refine t_reg ?_ | refine t_nil ?_ | refine t_skip ?_ | refine t_ret ?_
                | refine ae_val ?_
                | refine ae_callS ?_
                | refine ae_gval ?_
                | refine ae_gno ?_
                | refine ae_box ?_
                | refine a_cond ?_ ?_
                | (with_reducible intro hc; with_reducible exact Bool.noConfusion hc)
                | (with_reducible intro hc; have hC := And.intro hC hc))
            (first | apply pend rs79 | apply pendN rs79); (focus (simp (maxDischargeDepth := 8) only [hNE, go_sem, cast0]; first | done | exact rfl)); (focus (simp (maxDischargeDepth := 8) only [hNE, go_sem, cast0]; first | done | exact rfl))
        · have hbb : (x.bytes == []) = true := by simpa [hk0] using h2b
          have sn : sizeN n x = p := by simp [sizeN, hk0, hpn]
          have e3 : sizeF n x = (p, 0) := by rw [e1, sn]; simp [rfs]; omega
          have e2 : sizeR n x = p := by rw [sizeR, e3, sn]; rfl
          rw [e3, e2]
          simp only [encEv, hk0, hp] at h1 h2 ⊢
          (refine ppure_of_T ok79 (by simp only [List.length_cons, List.length_nil]; decide) ?_; refine t_seq ?_)
          (have hA := And.intro hbb (w1); have hP := And.intro h1 (And.intro h2 (True.intro)); have hNE := True.intro; have hC := True.intro; repeat' first
              | with_reducible first | refine k_seq ?_ | refine t_seq ?_ | refine t_reg ?_ | refine t_nil ?_ | refine t_skip ?_ | refine t_ret ?_ | refine k_seq_ret ?_
              | refine ae_val ?_
              | refine ae_callS ?_
              | refine ae_gval ?_
              | refine ae_gno ?_
              | refine ae_box ?_
              | refine a_cond ?_ ?_
              | (with_reducible intro hc; with_reducible exact Bool.noConfusion hc)
              | (with_reducible intro hc; have hC := And.intro hC hc))
          (first | apply pend rs79 | apply pendN rs79); (focus (simp (maxDischargeDepth := 8) only [hNE, go_sem, cast0]; first | done | exact rfl)); (focus (simp (maxDischargeDepth := 8) only [hNE, go_sem, cast0]; first | done | exact rfl))
        · have hbb : x.bytes = [] := by simp [hk0] at h2b; exact h2b.1
          have hp0 : p = 0 := by simp [hk0] at h2b; omega
          subst hp0
          have sn : sizeN n x = n := by simp [sizeN, hk0]
          have e3 : sizeF n x = (n, 0) := by rw [e1, sn]; simp [rfs]; omega
          have e2 : sizeR n x = n := by rw [sizeR, e3, sn]; rfl
          have mx : (if (n : Int) < 0 then (0 : Int) else (n : Int)) = (n : Int) := if_neg (by omega)
          rw [e3, e2]
          simp only [encEv, hk0, hp, hbb] at h1 h2 ⊢
          (refine ppure_of_T ok79 (by simp only [List.length_cons, List.length_nil]; decide) ?_; refine t_seq ?_)
          have wz : IntKind.i64.wrap (0 + 0) = 0 := by decide
          have wz2 : IntKind.i64.wrap 0 = 0 := by decide
          have ezz : decide ((20000 : Int) < 0) = false := rfl
          (have hA := And.intro wz (And.intro wz2 (And.intro ezz (mx))); have hP := And.intro h1 (And.intro h2 (True.intro)); have hNE := True.intro; have hC := True.intro; repeat' first
              | with_reducible first | refine k_seq ?_ | refine t_seq ?_ | refine t_reg ?_ | refine t_nil ?_ | refine t_skip ?_ | refine t_ret ?_
              | refine ae_val ?_
              | refine ae_callS ?_
              | refine ae_gval ?_
              | refine ae_box ?_
              | refine a_cond ?_ ?_
              | (with_reducible intro hc; with_reducible exact Bool.noConfusion hc)
              | (with_reducible intro hc; have hC := And.intro hC hc))
          (first | apply pend rs79 | apply pendN rs79); (focus (simp (maxDischargeDepth := 8) only [hNE, go_sem, cast0]; first | done | exact rfl)); (focus (simp (maxDischargeDepth := 8) only [hNE, go_sem, cast0]; first | done | exact rfl))
theorem chkL_size {n : Nat} {x : Ev} (h : (sizeF n x).2 = 0) : (sizeF n x).1 = sizeR n x := by
  rw [sizeR, if_pos h]; exact (sizeF_le h).2.1
attribute [local go_sem] encEv Int.toNat_natCast List.getElem?_map Option.map_some in
set_option maxHeartbeats 2000000 in
theorem p37 (s : List UInt8) (l : List Ev) (hs : s.length ≤ 140737488355328) (hl : l.length ≤ 1000) (hb : ∀ x ∈ l, x.bytes.length ≤ 140737488355328) :
    PPure Try.prog 37 [.str s, .list .any (l.map encEv)] (.tup [.int .i64 ((chkF s l).1 : Int), .int .i64 (chkF s l).2]) := by
  by_cases h1 : 20000 < s.length
  · have e0 : chkF s l = (0, 8) := by simp [chkF, h1]
    have e1 : decide ((20000 : Int) < (s.length : Int)) = true := by simp; omega
    rw [e0]
    (refine ppure_of_T ok37 (by simp only [List.length_cons, List.length_nil]; decide) ?_; refine t_seq ?_)
    (have hA := e1; have hP := True.intro; have hNE := True.intro; have hC := True.intro; repeat' first
        | with_reducible first | refine k_seq ?_ | refine t_seq ?_ | refine t_reg ?_ | refine t_nil ?_ | refine t_ret ?_ | refine k_seq_ret ?_
        | refine ae_val ?_
        | refine ae_gval ?_
        | refine a_cond ?_ ?_
        | (with_reducible intro hc; with_reducible exact Bool.noConfusion hc)
        | (with_reducible intro hc; have hC := And.intro hC hc))
    (first | apply pend rs37 | apply pendN rs37); (focus (simp only [go_sem, Int.natCast_zero]; first | done | exact rfl)); (focus (simp only [go_sem, Int.natCast_zero]; first | done | exact rfl))
  have e1 : decide ((20000 : Int) < (s.length : Int)) = false := by simp; omega
  by_cases h2 : 300 < l.length
  · have e0 : chkF s l = (0, 8) := by simp [chkF, h2]
    have e2 : decide ((300 : Int) < (l.length : Int)) = true := by simp; omega
    rw [e0]
    (refine ppure_of_T ok37 (by simp only [List.length_cons, List.length_nil]; decide) ?_; refine t_seq ?_)
    (have hA := And.intro e1 (e2); have hP := True.intro; have hNE := True.intro; have hC := True.intro; repeat' first
        | with_reducible first | refine k_seq ?_ | refine t_seq ?_ | refine t_reg ?_ | refine t_nil ?_ | refine t_ret ?_ | refine k_seq_ret ?_
        | refine ae_val ?_
        | refine ae_gval ?_
        | refine a_cond ?_ ?_
        | (with_reducible intro hc; with_reducible exact Bool.noConfusion hc)
        | (with_reducible intro hc; have hC := And.intro hC hc))
    (first | apply pend rs37 | apply pendN rs37); (focus (simp only [go_sem, Int.natCast_zero]; first | done | exact rfl)); (focus (simp only [go_sem, Int.natCast_zero]; first | done | exact rfl))
  have e2 : decide ((300 : Int) < (l.length : Int)) = false := by simp; omega
  have e0 : chkF s l = chkL l 0 s.length := by simp [chkF, h1, h2]
  obtain ⟨R, hR⟩ : ∃ R, chkL l 0 s.length = R := ⟨_, rfl⟩
  rw [e0, hR]
  (refine ppure_of_T ok37 (by simp only [List.length_cons, List.length_nil]; decide) ?_; refine t_seq ?_)
  (have hA := And.intro e1 (e2); have hP := True.intro; have hNE := True.intro; have hC := True.intro; repeat' first
      | with_reducible first | refine k_seq ?_ | refine t_seq ?_ | refine t_reg ?_ | refine t_nil ?_ | refine t_skip ?_ | refine t_block ?_
      | refine ae_val ?_
      | refine ae_gval ?_
      | refine a_cond ?_ ?_
      | (with_reducible intro hc; with_reducible exact Bool.noConfusion hc)
      | (with_reducible intro hc; have hC := And.intro hC hc))
  refine t_loopX (fun (k0 : Nat) (E0 : Nat → PV) (H0 : Hp) => ∃ (i : Nat) (n : Nat), i + k0 = l.length ∧ n ≤ 20000 ∧ chkL (l.drop i) i n = R ∧ E0 7 = .int .i64 (i : Int) ∧ E0 6 = .int .i64 (n : Int) ∧ H0 = hp []) (l.length) ?_ ?_
  intro Ng
  refine ⟨_, _, wkE_id, rowsok_nil, 0, s.length, (by first | omega | rfl | assumption | (simp (maxDischargeDepth := 8) only [go_sem, Int.natCast_zero, hNE]; first | done | rfl | assumption | omega)), (by first | omega | rfl | assumption | (simp (maxDischargeDepth := 8) only [go_sem, Int.natCast_zero, hNE]; first | done | rfl | assumption | omega)), ?_, (by simp (maxDischargeDepth := 8) only [go_sem, Int.natCast_zero, hNE, List.length_append, List.length_cons, List.length_nil, Nat.zero_add]; first | done | rfl), (by simp (maxDischargeDepth := 8) only [go_sem, Int.natCast_zero, hNE, List.length_append, List.length_cons, List.length_nil, Nat.zero_add]; first | done | rfl), rfl⟩
  · exact hR
  rintro k0 E0 H0 hfr0 ⟨i, n, hk, hn, hr, h0_7, h0_6, rfl⟩
  have e0_1 := hfr0 1 rfl
  simp (maxDischargeDepth := 8) only [go_sem, Int.natCast_zero, hNE] at e0_1
  clear hfr0
  by_cases hi : i < l.length
  · obtain ⟨x, hx, hdr⟩ := at_list hi
    have hlt := lt_int hi
    have hw := wrap_next hi hl
    have hge : (0 : Int) ≤ (i : Int) := by omega
    have h79 := p79 n x hn (hb x (List.mem_of_getElem? hx))
    rw [hdr, chkL] at hr
    by_cases hz : (sizeF n x).2 = 0
    · have hle := sizeF_le hz
      rw [← chkL_size hz] at h79
      rw [if_pos hz] at hr
      generalize sizeF n x = q at h79 hr hz hle
      have hq : q.1 ≤ 20000 := by omega
      have ez : decide (¬ q.2 = 0) = false := dnz0 hz
      simp only [encEv] at h79
      (have hA := And.intro e0_1 (And.intro h0_7 (And.intro h0_6 (And.intro hlt (And.intro hge (And.intro hx (ez)))))); have hP := And.intro h79 (True.intro); have hNE := True.intro; have hC := True.intro; repeat' first
          | with_reducible first | refine k_seq ?_ | refine t_seq ?_ | refine t_reg ?_ | refine t_nil ?_ | refine t_skip ?_ | refine k_blk ?_ | refine t_block ?_
          | refine ae_val ?_
          | refine ae_callS ?_
          | refine a_cond ?_ ?_
          | (with_reducible intro hc; with_reducible exact Bool.noConfusion hc)
          | (with_reducible intro hc; have hC := And.intro hC hc))
      refine k_invX (k0 - 1) (by omega) ?_
      intro Ng
      refine ⟨_, _, wkE_id, rowsok_nil, i + 1, q.1, (by first | omega | (simp only [List.length_append, List.length_cons, List.length_nil, List.length_drop, List.length_take, List.length_map]; omega)), (by first | omega | (simp only [List.length_append, List.length_cons, List.length_nil, List.length_drop, List.length_take, List.length_map]; omega)), ?_, (by simp (maxDischargeDepth := 8) only [go_sem, e0_1, h0_7, h0_6, hw, hNE, List.length_append, List.length_cons, List.length_nil, Nat.zero_add]; first | done | rfl), (by simp (maxDischargeDepth := 8) only [go_sem, e0_1, h0_7, h0_6, hw, hNE, List.length_append, List.length_cons, List.length_nil, Nat.zero_add]; first | done | rfl), rfl⟩
      exact hr
    · rw [if_neg hz] at hr
      generalize sizeF n x = q at h79 hr hz
      have ez : decide (¬ q.2 = 0) = true := dnz1 hz
      simp only [encEv] at h79
      subst hr
      (have hA := And.intro e0_1 (And.intro h0_7 (And.intro h0_6 (And.intro hlt (And.intro hge (And.intro hx (ez)))))); have hP := And.intro h79 (True.intro); have hNE := True.intro; have hC := True.intro; repeat' first
          | with_reducible first | refine k_seq ?_ | refine t_seq ?_ | refine t_reg ?_ | refine t_nil ?_ | refine t_skip ?_ | refine t_ret ?_ | refine k_seq_ret ?_ | refine k_blk_ret ?_ | refine k_invX_ret ?_ | refine t_block ?_
          | refine ae_val ?_
          | refine ae_callS ?_
          | refine a_cond ?_ ?_
          | (with_reducible intro hc; with_reducible exact Bool.noConfusion hc)
          | (with_reducible intro hc; have hC := And.intro hC hc))
      (first | apply pend rs37 | apply pendN rs37); (focus (simp (maxDischargeDepth := 8) only [hNE, go_sem, e0_1, h0_7, h0_6]; first | done | exact rfl)); (focus (simp (maxDischargeDepth := 8) only [hNE, go_sem, e0_1, h0_7, h0_6]; first | done | exact rfl))
  · have hlt := nlt_int hi
    have hil : i = l.length := by omega
    rw [hil, List.drop_length, chkL] at hr
    subst hr
    (have hA := And.intro e0_1 (And.intro h0_7 (And.intro h0_6 (hlt))); have hP := True.intro; have hNE := True.intro; have hC := True.intro; repeat' first
        | with_reducible first | refine k_seq ?_ | refine t_seq ?_ | refine t_reg ?_ | refine t_nil ?_ | refine t_ret ?_ | refine t_exit ?_ | refine k_seq_exit ?_ | refine k_blk_exit ?_ | refine k_invX_exit ?_
        | refine ae_val ?_
        | refine a_cond ?_ ?_
        | (with_reducible intro hc; with_reducible exact Bool.noConfusion hc)
        | (with_reducible intro hc; have hC := And.intro hC hc))
    (first | apply pend rs37 | apply pendN rs37); (focus (simp only [go_sem, e0_1, h0_7, h0_6]; first | done | exact rfl)); (focus (simp only [go_sem, e0_1, h0_7, h0_6]; first | done | exact rfl))
theorem p45 (s : List UInt8) (l : List Ev) (hs : s.length ≤ 140737488355328) (hl : l.length ≤ 1000) (hb : ∀ x ∈ l, x.bytes.length ≤ 140737488355328) :
    PPure Try.prog 45 [.str s, .list .any (l.map encEv)] (.int .i64 (chkF s l).2) := by
  have h1 := p37 s l hs hl hb
  (refine ppure_of_T ok45 (by simp only [List.length_cons, List.length_nil]; decide) ?_; refine t_seq ?_)
  (have hA := True.intro; have hP := And.intro h1 (True.intro); have hNE := True.intro; have hC := True.intro; repeat' first
      | with_reducible first | refine k_seq ?_ | refine t_seq ?_ | refine t_reg ?_ | refine t_nil ?_ | refine t_ret ?_
      | refine ae_val ?_
      | refine ae_callS ?_)
  (first | apply pend rs45 | apply pendN rs45); (focus (simp only [go_sem]; first | done | exact rfl)); (focus (simp only [go_sem]; first | done | exact rfl))
end Go.Proofs.Ythdgdngdfijfhaa
namespace Go.Proofs.Ythdgdngdfijfhaa
open Go.RowKit Go.Proofs
set_option linter.unusedVariables false
set_option linter.unusedSimpArgs false
attribute [local irreducible] PPure CallN Tops TopsDm T
attribute [local go_sem] encEv Int.toNat_natCast List.getElem?_map Option.map_some in
theorem p80 (l : List Ev) (r : Nat) (hl : l.length ≤ 1000) (hr0 : r ≤ l.length) : PPure Try.prog 80 [.list .any (l.map encEv), .int .i64 (r : Int)] (.int .i64 ((syncL (l.take r) 0 0 : Nat) : Int)) := by
  obtain ⟨S, hS⟩ : ∃ S, syncL (l.take r) 0 0 = S := ⟨_, rfl⟩
  rw [hS]
  (refine ppure_of_T ok80 (by simp only [List.length_cons, List.length_nil]; decide) ?_; refine t_seq ?_)
  (have hA := True.intro; have hP := True.intro; have hNE := True.intro; have hC := True.intro; repeat' first
      | with_reducible first | refine k_seq ?_ | refine t_seq ?_ | refine t_reg ?_ | refine t_nil ?_ | refine t_block ?_
      | refine ae_val ?_)
  refine t_loopX (fun (k0 : Nat) (E0 : Nat → PV) (H0 : Hp) => ∃ (i : Nat) (a : Nat), i + k0 = r ∧ syncL ((l.take r).drop i) i a = S ∧ E0 6 = .int .i64 (i : Int) ∧ E0 5 = .int .i64 (a : Int) ∧ H0 = hp []) (r) ?_ ?_
  intro Ng
  refine ⟨_, _, wkE_id, rowsok_nil, 0, 0, (by first | omega | rfl | assumption | (simp (maxDischargeDepth := 8) only [go_sem, cast0, hNE]; first | done | rfl | assumption | omega)), ?_, (by simp (maxDischargeDepth := 8) only [go_sem, cast0, hNE, List.length_append, List.length_cons, List.length_nil, Nat.zero_add]; first | done | rfl), (by simp (maxDischargeDepth := 8) only [go_sem, cast0, hNE, List.length_append, List.length_cons, List.length_nil, Nat.zero_add]; first | done | rfl), rfl⟩
  · exact hS
  rintro k0 E0 H0 hfr0 ⟨i, a, hk, hr3, h0_6, h0_5, rfl⟩
  have e0_0 := hfr0 0 rfl; have e0_1 := hfr0 1 rfl; have e0_4 := hfr0 4 rfl
  simp (maxDischargeDepth := 8) only [go_sem, cast0, hNE] at e0_0 e0_1 e0_4
  clear hfr0
  by_cases hi : i < r
  · obtain ⟨y, hy, hdr⟩ := at_list (xs := l.take r) (i := i) (by simp; omega)
    have hy2 : l[i]? = some y := by rwa [List.getElem?_take_of_lt hi] at hy
    have hlt : (i : Int) < (r : Int) := by omega
    have hlt2 : (i : Int) < (l.length : Int) := by omega
    have hw := wrap_next hi (by omega)
    have hge : (0 : Int) ≤ (i : Int) := by omega
    rw [hdr, syncL] at hr3
    by_cases hyk : y.kind = 2
    · have ek : decide (y.kind = 2) = true := by simp [hyk]
      rw [if_pos hyk] at hr3
      (have hA := And.intro e0_0 (And.intro e0_1 (And.intro e0_4 (And.intro h0_6 (And.intro h0_5 (And.intro hlt (And.intro hlt2 (And.intro hge (And.intro hy2 (ek))))))))); have hP := True.intro; have hNE := True.intro; have hC := True.intro; repeat' first
          | with_reducible first | refine k_seq ?_ | refine t_seq ?_ | refine t_reg ?_ | refine t_nil ?_ | refine t_skip ?_ | refine k_blk ?_ | refine t_block ?_
          | refine ae_val ?_
          | refine a_cond ?_ ?_
          | (with_reducible intro hc; with_reducible exact Bool.noConfusion hc)
          | (with_reducible intro hc; have hC := And.intro hC hc))
      refine k_invX (k0 - 1) (by omega) ?_
      intro Ng
      refine ⟨_, _, wkE_id, rowsok_nil, i + 1, i + 1, (by first | omega | (simp only [List.length_append, List.length_cons, List.length_nil, List.length_drop, List.length_take, List.length_map]; omega)), ?_, (by simp (maxDischargeDepth := 8) only [go_sem, e0_0, e0_1, e0_4, h0_6, h0_5, hw, hNE, List.length_append, List.length_cons, List.length_nil, Nat.zero_add]; first | done | rfl), (by simp (maxDischargeDepth := 8) only [go_sem, e0_0, e0_1, e0_4, h0_6, h0_5, hw, hNE, List.length_append, List.length_cons, List.length_nil, Nat.zero_add]; first | done | rfl), rfl⟩
      exact hr3
    · have ek : decide (y.kind = 2) = false := by simp [hyk]
      rw [if_neg hyk] at hr3
      (have hA := And.intro e0_0 (And.intro e0_1 (And.intro e0_4 (And.intro h0_6 (And.intro h0_5 (And.intro hlt (And.intro hlt2 (And.intro hge (And.intro hy2 (ek))))))))); have hP := True.intro; have hNE := True.intro; have hC := True.intro; repeat' first
          | with_reducible first | refine k_seq ?_ | refine t_seq ?_ | refine t_reg ?_ | refine t_nil ?_ | refine t_skip ?_ | refine k_blk ?_ | refine t_block ?_
          | refine ae_val ?_
          | refine a_cond ?_ ?_
          | (with_reducible intro hc; with_reducible exact Bool.noConfusion hc)
          | (with_reducible intro hc; have hC := And.intro hC hc))
      refine k_invX (k0 - 1) (by omega) ?_
      intro Ng
      refine ⟨_, _, wkE_id, rowsok_nil, i + 1, a, (by first | omega | (simp only [List.length_append, List.length_cons, List.length_nil, List.length_drop, List.length_take, List.length_map]; omega)), ?_, (by simp (maxDischargeDepth := 8) only [go_sem, e0_0, e0_1, e0_4, h0_6, h0_5, hw, hNE, List.length_append, List.length_cons, List.length_nil, Nat.zero_add]; first | done | rfl), (by simp (maxDischargeDepth := 8) only [go_sem, e0_0, e0_1, e0_4, h0_6, h0_5, hw, hNE, List.length_append, List.length_cons, List.length_nil, Nat.zero_add]; first | done | rfl), rfl⟩
      exact hr3
  · have hlt : ((i : Int) < (r : Int)) = False := eq_false (by omega)
    rw [List.drop_eq_nil_of_le (by simp; omega), syncL] at hr3
    subst hr3
    (have hA := And.intro e0_0 (And.intro e0_1 (And.intro e0_4 (And.intro h0_6 (And.intro h0_5 (hlt))))); have hP := True.intro; have hNE := True.intro; have hC := True.intro; repeat' first
        | with_reducible first | refine k_seq ?_ | refine t_seq ?_ | refine t_reg ?_ | refine t_nil ?_ | refine t_ret ?_ | refine t_exit ?_ | refine k_seq_exit ?_ | refine k_blk_exit ?_ | refine k_invX_exit ?_
        | refine ae_val ?_
        | refine a_cond ?_ ?_
        | (with_reducible intro hc; with_reducible exact Bool.noConfusion hc)
        | (with_reducible intro hc; have hC := And.intro hC hc))
    (first | apply pend rs80 | apply pendN rs80); (focus (simp only [go_sem, e0_0, e0_1, e0_4, h0_6, h0_5]; first | done | exact rfl)); (focus (simp only [go_sem, e0_0, e0_1, e0_4, h0_6, h0_5]; first | done | exact rfl))
end Go.Proofs.Ythdgdngdfijfhaa
namespace Go.Proofs.Ythdgdngdfijfhaa
open Go.RowKit Go.Proofs
set_option linter.unusedVariables false
set_option linter.unusedSimpArgs false
attribute [local irreducible] PPure CallN Tops TopsDm T
theorem take_in {α : Type} {l : List α} {i : Nat} (hi : i < l.length) : l.take (i + 1) = l.take i ++ [l[i]] := by
  rw [List.take_add_one, List.getElem?_eq_getElem hi]; rfl
end Go.Proofs.Ythdgdngdfijfhaa
namespace Go.Proofs.Ythdgdngdfijfhaa
open Go.RowKit Go.Proofs
set_option linter.unusedVariables false
set_option linter.unusedSimpArgs false
attribute [local irreducible] PPure CallN
theorem numL_leB : ∀ (k n : Nat), n < 256 ^ k → numL (leB n k) = n
  | 0, n, h => by simp [leB, numL]; omega
  | k + 1, n, h => by
    have h1 := numL_leB k (n / 256) (by rw [Nat.pow_succ] at h; omega)
    have h2 : (UInt8.ofNat (n % 256)).toNat = n % 256 := by simp
    simp only [leB, numL, h1, h2]; omega
end Go.Proofs.Ythdgdngdfijfhaa
namespace Go.Proofs.Ythdgdngdfijfhaa
open Go.RowKit Go.Proofs
set_option linter.unusedVariables false
set_option linter.unusedSimpArgs false
attribute [local irreducible] PPure CallN Tops TopsDm T
def acts0 : List Ac := [⟨1, 0, [65, 66]⟩, ⟨1, 0, []⟩, ⟨4, 0, []⟩]
def u1 : Un := ⟨0, 0, [[65, 66], []], [], [], true, 3⟩
theorem run0 : runG zeU acts0 = (((u1, [⟨0, [], 0⟩, ⟨0, [], 0⟩, ⟨0, [], 0⟩]), 3), 0) := by kernel_rfl
def s0 : List UInt8 := (bytesG u1).1
theorem bytes0 : (bytesG u1).2 = 0 := by kernel_rfl
theorem len0 : (s0.length : Int) = 26 := by kernel_rfl
theorem done0 : (doneG u1 ⟨0, 0, []⟩).2 = 0 ∧ (doneG u1 ⟨0, 0, []⟩).1.2.status = 1 := ⟨by kernel_rfl, by kernel_rfl⟩
theorem open0 : (openF 0 0 s0).2 = 0 ∧ (openF 0 0 s0).1.2 = 0 ∧ (openF 0 0 s0).1.1.ended = true ∧ (openF 0 0 s0).1.1.recs = [[65, 66], []] := ⟨by kernel_rfl, by kernel_rfl, by kernel_rfl, by kernel_rfl⟩
theorem sum0 : ((sumF [82, 0, 0, 0] : Nat) : Int) = 92 := by kernel_rfl
theorem p49 : PPure Try.prog 49 [] (.list .any (acts0.map encAc)) := by
  simp only [acts0, List.map_cons, List.map_nil, encAc]
  (refine ppure_of_T ok49 (by simp only [List.length_cons, List.length_nil]; decide) ?_; refine t_seq ?_)
  (have hA := True.intro; have hP := True.intro; have hNE := True.intro; have hC := True.intro; repeat' first
      | with_reducible first | refine k_seq ?_ | refine t_seq ?_ | refine t_reg ?_ | refine t_nil ?_ | refine t_ret ?_
      | refine ae_val ?_)
  (first | apply pend rs49 | apply pendN rs49); (focus (simp only [go_sem]; first | done | exact rfl)); (focus (simp only [go_sem]; first | done | exact rfl))
attribute [local go_sem] List.length_cons List.length_nil in
set_option maxHeartbeats 2000000 in
theorem p11 : PPure Try.prog 11 [] (.bool true) := by
  have h49 := p49
  have h24 := p24 zeU acts0 (by decide) (by decide) (by decide)
  rw [run0] at h24
  have h13 := p13 u1 (by decide) (by decide)
  rw [bytes0] at h13
  have h29 := p29 u1 ⟨0, 0, []⟩ (by decide) (by decide)
  obtain ⟨d1, d2⟩ := done0
  rw [d1] at h29
  obtain ⟨o1, o2, o3, o4⟩ := open0
  have hs0 : (bytesG u1).1 = s0 := rfl
  rw [hs0] at h13
  have h17 := p17z s0 (by have := len0; omega)
  rw [o1, o2] at h17
  have h21 := p21 [82, 0, 0, 0] (by decide)
  rw [if_pos (by decide), if_pos (by decide), sum0] at h21
  have h47 := p47 [[65, 66], []] [[65, 66], []] (by decide)
  rw [show (([[65, 66], []] : List (List UInt8)) == [[65, 66], []]) = true from rfl] at h47
  have hl := len0
  generalize s0 = s at h13 h17 hl o3 o4
  generalize (doneG u1 ⟨0, 0, []⟩).1 = q at h29 d2
  generalize (openF 0 0 s).1.1 = v at h17 o3 o4
  simp only [encU, encAc, encAn, acts0, List.map_cons, List.map_nil, d2, o3, o4, encS, zeU, u1] at h49 h24 h13 h29 h17 h47
  (refine ppure_of_T ok11 (by simp only [List.length_cons, List.length_nil]; decide) ?_; refine t_seq ?_)
  (have hA := hl; have hP := And.intro h49 (And.intro h24 (And.intro h13 (And.intro h29 (And.intro h17 (And.intro h21 (And.intro h47 (True.intro))))))); have hNE := True.intro; have hC := True.intro; repeat' first
      | with_reducible first | refine k_seq ?_ | refine t_seq ?_ | refine t_reg ?_ | refine t_nil ?_ | refine t_ret ?_
      | refine ae_val ?_
      | refine ae_callS ?_
      | refine ae_gval ?_
      | refine ae_gcallO ?_
      | (refine ae_alloc ?_; intro la ha hn1; have hNE := And.intro hNE hn1)
      | refine ae_store ?_)
  (first | apply pend rs11 | apply pendN rs11); (focus (simp (maxDischargeDepth := 8) only [hNE, go_sem]; first | done | exact rfl)); (focus (simp (maxDischargeDepth := 8) only [hNE, go_sem]; first | done | exact rfl))
end Go.Proofs.Ythdgdngdfijfhaa
namespace Go.Proofs.Ythdgdngdfijfhaa
open Go.ChangeShapes Go.WideShapes Go.ChangeAt Go.RowKit Go.Deep Go.Proofs
set_option linter.unusedVariables false
set_option linter.unusedSimpArgs false
theorem tvStr {l : List PV} (h : TV (.list false .str) l) : ∃ xs : List (List UInt8), l = [.list .any (xs.map encS)] ∧ xs.length ≤ maxLen :=
  TV_list (r := false) (fun x h1 _ h3 => by
    rw [h3 rfl] at h1
    obtain ⟨s, e, _⟩ := h1
    exact ⟨s, by simpa [encS, encB] using e⟩) h
section
variable {H : Type} {enc : TypeId × Value → H} {w : World} {r : Reach} {b0 : Nat} {base : Nat} {sp : Nat → Bool} {held : Bool} {v : Value} {d : DataW H} {ps : List MemPlace}
end
theorem ownKn : ownKnob Try.prog.godebug = none := by kernel_rfl
theorem laidOut : laidOutB Try.prog = true := by kernel_rfl
end Go.Proofs.Ythdgdngdfijfhaa
namespace Go.Proofs.Ythdgdngdfijfhaa
open Go.RowKit Go.Proofs
set_option linter.unusedVariables false
set_option linter.unusedSimpArgs false
theorem frm_split (k : UInt8) (x : List UInt8) : frmF k x = k :: (leB x.length 3 ++ (x ++ leB (sumF (k :: (leB x.length 3 ++ x))) 4)) := by
  simp [frmF, smdF]
theorem nextF_frame (k : UInt8) (x r : List UInt8) (hx : x.length ≤ 200) (hk : k.toNat = 82 ∨ (k.toNat = 69 ∧ x = [])) : nextF (frmF k x ++ r) = ⟨x, k.toNat, r, true⟩ := by
  have hl : (frmF k x).length = x.length + 8 := frmF_len k x
  have h0 : (frmF k x ++ r)[0]? = some k := by rw [frm_split]; simp
  have e3 : (leB x.length 3).length = 3 := leB_len _ _
  have hn : numL (((frmF k x ++ r).take 4).drop 1) = x.length := by
    rw [frm_split, List.cons_append, List.take_succ_cons, List.drop_succ_cons, List.drop_zero, List.append_assoc, List.take_append_of_le_length (by omega), List.take_of_length_le (by omega)]
    exact numL_leB 3 _ (by omega)
  have ht : (frmF k x ++ r).take (x.length + 8) = frmF k x := by rw [← hl]; exact List.take_left
  have hd : (frmF k x ++ r).drop (x.length + 8) = r := by rw [← hl]; exact List.drop_left
  have hr : ((frmF k x ++ r).take (x.length + 4)).drop 4 = x := by
    have h1 : (frmF k x ++ r).take (x.length + 4) = k :: (leB x.length 3 ++ x) := by
      have h2 : frmF k x ++ r = (k :: (leB x.length 3 ++ x)) ++ (leB (sumF (k :: (leB x.length 3 ++ x))) 4 ++ r) := by rw [frm_split]; simp
      rw [h2, show x.length + 4 = (k :: (leB x.length 3 ++ x)).length by simp [e3]; omega]
      exact List.take_left
    rw [h1, List.drop_succ_cons, show 3 = (leB x.length 3).length from e3.symm]
    exact List.drop_left
  have hb : badK k x.length = false := by
    rcases hk with h | ⟨h, rfl⟩
    · simp [badK, h]; omega
    · simp [badK, h]
  unfold nextF
  rw [h0]
  simp only [hn, hb]
  rw [if_neg (by rw [List.length_append, hl]; omega), if_neg (by decide), if_neg (by rw [List.length_append, hl]; omega), hr, hd, ht]
  simp
theorem openL_frames : ∀ (rs : List (List UInt8)) (acc : List (List UInt8)) (f : Nat) (tail : List UInt8), rs.length + acc.length ≤ 60 → (∀ x ∈ rs, x.length ≤ 200) →
    openL (f + rs.length) (framesF rs ++ tail) acc = openL f tail (acc ++ rs)
  | [], acc, f, tail, _, _ => by simp [framesF]
  | x :: rs, acc, f, tail, hl, hx => by
    have h1 := nextF_frame 82 x (framesF rs ++ tail) (hx x List.mem_cons_self) (.inl rfl)
    have h2 := openL_frames rs (acc ++ [x]) f tail (by simp at hl ⊢; omega) (fun y hy => hx y (List.mem_cons_of_mem _ hy))
    rw [List.length_cons, ← Nat.add_assoc, openL, framesF, List.append_assoc, h1]
    simp only
    rw [if_neg (by decide), if_neg (by decide), if_neg (by simp at hl; omega), h2, List.append_assoc]
    rfl
theorem nextF_nil : (nextF []).ok = false := rfl
theorem open_seq (u : Un) (h : Vu u) (hac : u.access = 0) : openL 62 (bytesF u) [] = (({ u with pos := 0 }, 0), 0) := by
  obtain ⟨_, hw, hn, hs, ht, hb, hp0, hp1⟩ | ⟨h1, _⟩ | ⟨h1, _⟩ := h
  · have e1 : bytesF u = framesF u.recs ++ (if u.ended = true then frmF 69 [] else []) := by simp [bytesF, hac]
    have h2 := openL_frames u.recs [] (62 - u.recs.length) (if u.ended = true then frmF 69 [] else []) (by simp; omega) hs
    rw [show 62 - u.recs.length + u.recs.length = 62 by omega] at h2
    obtain ⟨f, hf⟩ : ∃ f, 62 - u.recs.length = f + 1 := ⟨61 - u.recs.length, by omega⟩
    rw [e1, h2, hf, openL, List.nil_append]
    cases he : u.ended with
    | false =>
      rw [if_neg (show ¬ false = true by decide), if_pos nextF_nil]
      obtain ⟨ac, w, rs, th, by_, en, po⟩ := u
      simp at hac hw ht hb he
      simp [mkSq, hac, hw, ht, hb, he]
    | true =>
      have h3 := nextF_frame 69 [] [] (by simp) (.inr ⟨rfl, rfl⟩)
      rw [List.append_nil] at h3
      rw [if_pos rfl, h3]
      simp only
      rw [if_neg (by decide), if_pos (by decide)]
      obtain ⟨ac, w, rs, th, by_, en, po⟩ := u
      simp at hac hw ht hb he
      simp [mkSq, hac, hw, ht, hb, he]
  · omega
  · omega
theorem sumN_zeros : ∀ (m i n : Nat), n + (m * i + m * (m + 1) / 2) < 65521 → sumN (List.replicate m 0) i n = n + (m * i + m * (m + 1) / 2)
  | 0, i, n, _ => by simp [sumN]
  | m + 1, i, n, h => by
    have e0 : (m + 1) * (m + 1 + 1) / 2 = m * (m + 1) / 2 + (m + 1) := by
      rw [show (m + 1) * (m + 1 + 1) = m * (m + 1) + (m + 1) * 2 by rw [Nat.add_mul, Nat.mul_add]; omega, Nat.add_mul_div_right _ _ (by decide)]
    have e1 : (m + 1) * i = m * i + i := by rw [Nat.add_mul, Nat.one_mul]
    have e2 : m * (i + 1) = m * i + m := by rw [Nat.mul_add, Nat.mul_one]
    rw [List.replicate_succ, sumN]
    have h1 : (n + ((0 : UInt8).toNat + 1) * (i + 1)) % 65521 = n + (i + 1) := by
      rw [show ((0 : UInt8).toNat + 1) * (i + 1) = i + 1 by simp]
      exact Nat.mod_eq_of_lt (by omega)
    rw [h1, sumN_zeros m (i + 1) (n + (i + 1)) (by omega)]
    omega
theorem slt_nz (n w : Nat) (x : List UInt8) (hn : n ≤ 60) (hw : w ≤ 200) (hx : x.length = w) : sltF n x ≠ List.replicate (w + 4) 0 := by
  intro e
  rw [sltF, smdF] at e
  have h1 : x = List.replicate w 0 := by
    have := congrArg (List.take w) e
    rw [← hx, List.take_left] at this
    rw [this, List.take_replicate, hx]
    congr 1; omega
  have h2 : leB (sumF ([UInt8.ofNat n] ++ x)) 4 = List.replicate 4 0 := by
    have := congrArg (List.drop w) e
    rw [← hx, List.drop_left] at this
    rw [this, List.drop_replicate, hx]
    congr 1; omega
  have h3 : sumF ([UInt8.ofNat n] ++ x) = (n + 1) + (w * 1 + w * (w + 1) / 2) := by
    have hb : w * (w + 1) / 2 ≤ 20100 := by
      have : w * (w + 1) ≤ 200 * 201 := Nat.mul_le_mul hw (by omega)
      omega
    have hu : (UInt8.ofNat n).toNat = n := by simp; omega
    rw [h1, sumF, List.singleton_append, sumN, hu, show (0 + (n + 1) * (0 + 1)) % 65521 = n + 1 by rw [Nat.zero_add, Nat.mul_one]; exact Nat.mod_eq_of_lt (by omega)]
    exact sumN_zeros w (0 + 1) (n + 1) (by omega)
  have h4 := congrArg numL h2
  rw [numL_leB 4 _ (by have := sumF_lt ([UInt8.ofNat n] ++ x); omega), h3] at h4
  have : numL (List.replicate 4 0) = 0 := by decide
  omega
def slot1 (w n : Nat) (x : List UInt8 × Bool) : List UInt8 := if x.2 = true then sltF n x.1 else List.replicate (w + 4) 0
def sl (w : Nat) : List (List UInt8 × Bool) → Nat → List UInt8
  | [], _ => []
  | x :: r, n => slot1 w n x ++ sl w r (n + 1)
theorem sl_snoc (w : Nat) : ∀ (A : List (List UInt8 × Bool)) (x : List UInt8 × Bool) (n : Nat), sl w (A ++ [x]) n = sl w A n ++ slot1 w (n + A.length) x
  | [], x, n => by simp [sl]
  | y :: A, x, n => by simp only [List.cons_append, sl, sl_snoc w A x (n + 1), List.append_assoc, List.length_cons, show n + 1 + A.length = n + (A.length + 1) by omega]
def okR (w : Nat) (x : List UInt8 × Bool) : Prop := if x.2 = true then x.1.length = w else x.1 = []
theorem slot1_len (w n : Nat) (x : List UInt8 × Bool) (h : okR w x) : (slot1 w n x).length = w + 4 := by
  unfold okR at h
  unfold slot1
  split
  · rename_i e; rw [if_pos e] at h; rw [sltF_len, h]
  · simp
theorem slotOf_slot1 (w n : Nat) (x : List UInt8 × Bool) (h : okR w x) (hn : n ≤ 60) (hw : w ≤ 200) : slotOf w n (slot1 w n x) = x := by
  obtain ⟨s, t⟩ := x
  cases t with
  | true =>
    have h : s.length = w := h
    have h1 := slt_nz n w s hn hw h
    have h2 : (sltF n s).take w = s := by rw [sltF, smdF, ← h]; exact List.take_left
    simp [slotOf, isSlot, slot1, h1, h2]
  | false =>
    have h : s = [] := h
    subst h
    simp [slotOf, isSlot, slot1]
theorem scan_sl (w : Nat) (hw : w ≤ 200) : ∀ (R : List (List UInt8 × Bool)) (n f : Nat), (∀ x ∈ R, okR w x) → n + R.length ≤ 61 → R.length ≤ f → scanL w f n (sl w R n) = R
  | [], n, 0, _, _, _ => rfl
  | [], n, f + 1, _, _, _ => by simp [scanL, sl]
  | x :: R, n, 0, _, _, h => by simp at h
  | x :: R, n, f + 1, hx, hn, hf => by
    have h1 := slot1_len w n x (hx x List.mem_cons_self)
    have h2 : ¬ (sl w (x :: R) n).length < w + 4 := by simp [sl, h1]
    have ht : (sl w (x :: R) n).take (w + 4) = slot1 w n x := by rw [sl, ← h1]; exact List.take_left
    have hd : (sl w (x :: R) n).drop (w + 4) = sl w R (n + 1) := by rw [sl, ← h1]; exact List.drop_left
    simp only [List.length_cons] at hn hf
    rw [scanL, if_neg h2, ht, hd, slotOf_slot1 w n x (hx x List.mem_cons_self) (by omega) hw, scan_sl w hw R (n + 1) f (fun y hy => hx y (List.mem_cons_of_mem _ hy)) (by omega) (by omega)]
theorem sl_len (w : Nat) : ∀ (R : List (List UInt8 × Bool)) (n : Nat), (∀ x ∈ R, okR w x) → (sl w R n).length = R.length * (w + 4)
  | [], n, _ => by simp [sl]
  | x :: R, n, hx => by
    rw [sl, List.length_append, slot1_len w n x (hx x List.mem_cons_self), sl_len w R (n + 1) (fun y hy => hx y (List.mem_cons_of_mem _ hy)), List.length_cons, Nat.add_mul]; omega
theorem slots_sl (u : Un) (w : Nat) (hw : u.width = (w : Int)) (ht : u.there.length = u.recs.length) : ∀ m, m ≤ u.recs.length → slotsN u m = sl w ((u.recs.zip u.there).take m) 1
  | 0, _ => by simp [slotsN, sl]
  | m + 1, h => by
    have h1 : m < u.recs.length := by omega
    have h2 : m < u.there.length := by omega
    have hz : (u.recs.zip u.there)[m]? = some (u.recs[m], u.there[m]) := by simp [List.getElem?_zip_eq_some, List.getElem?_eq_getElem h1, List.getElem?_eq_getElem h2]
    rw [slotsN, slots_sl u w hw ht m (by omega), List.take_add_one, hz, Option.toList_some, sl_snoc]
    congr 1
    have hl : (List.take m (u.recs.zip u.there)).length = m := by simp [ht]; omega
    rw [hl, slotAt, List.getElem?_eq_getElem h1, List.getElem?_eq_getElem h2, slot1, show u.width.toNat = w by omega, Nat.add_comm 1 m]
    cases u.there[m] <;> simp
theorem trim_last : ∀ (R : List (List UInt8 × Bool)), R.getLast?.map (·.2) ≠ some false → trimN R R.length = R.length
  | [], _ => rfl
  | x :: R, h => by
    rw [List.length_cons, trimN]
    have h1 : (x :: R)[R.length]? = (x :: R).getLast? := by rw [List.getLast?_eq_getElem?]; rfl
    rw [h1]
    cases e : (x :: R).getLast? with
    | none => simp at e
    | some y =>
      rw [e] at h
      cases hy : y.2 with
      | true => simp [hy]
      | false => simp [hy] at h
theorem open_dir (u : Un) (h : Vu u) (hac : u.access = 1) : odF u.width.toNat (bytesF u) = { u with pos := 0 } ∧ (bytesF u).length = u.recs.length * (u.width.toNat + 4) := by
  obtain ⟨h1, _⟩ | ⟨_, hw0, hw1, hn, ht, hst, hl, hb, he, hpz⟩ | ⟨h1, _⟩ := h
  · omega
  · obtain ⟨w, hw⟩ : ∃ w : Nat, u.width = (w : Int) := ⟨u.width.toNat, by omega⟩
    have e1 : bytesF u = slotsN u u.recs.length := by simp [bytesF, hac]
    have hzl : (u.recs.zip u.there).length = u.recs.length := by simp [ht]
    have e2 : bytesF u = sl w (u.recs.zip u.there) 1 := by
      rw [e1, slots_sl u w hw ht _ (Nat.le_refl _), List.take_of_length_le (by omega)]
    have hok : ∀ x ∈ u.recs.zip u.there, okR w x := by
      intro x hx
      obtain ⟨i, hi⟩ := List.getElem?_of_mem hx
      obtain ⟨s, t⟩ := x
      rw [List.getElem?_zip_eq_some] at hi
      have := hst i s t hi.1 hi.2
      unfold okR
      split
      · rename_i e; have e : t = true := e; rw [if_pos e] at this; show s.length = w; omega
      · rename_i e; have e : ¬ t = true := e; rw [if_neg e] at this; exact List.length_eq_zero_iff.1 (by show s.length = 0; omega)
    have e3 := scan_sl w (by omega) (u.recs.zip u.there) 1 60 hok (by omega) (by omega)
    have e4 : (u.recs.zip u.there).getLast?.map (·.2) ≠ some false := by
      intro e
      apply hl
      have : ((u.recs.zip u.there).map (·.2)).getLast? = some false := by rw [List.getLast?_map]; exact e
      rwa [List.map_snd_zip (by omega)] at this
    refine ⟨?_, ?_⟩
    · rw [show u.width.toNat = w by omega, e2, odF]
      simp only [e3, trim_last _ e4, List.take_length]
      rw [List.map_fst_zip (by omega), List.map_snd_zip (by omega)]
      obtain ⟨ac, wi, rs, th, by_, en, po⟩ := u
      simp at hac hw hb he
      simp [hac, hw, hb, he]
    · rw [e2, sl_len w _ 1 hok, hzl, show u.width.toNat = w by omega]
  · omega
end Go.Proofs.Ythdgdngdfijfhaa
namespace Go.Proofs.Ythdgdngdfijfhaa
open Go.RowKit Go.Proofs
set_option linter.unusedVariables false
set_option linter.unusedSimpArgs false
attribute [local irreducible] PPure CallN Tops TopsDm T
theorem runL_valid : ∀ (l : List Ac) (u : Un), Vu u → (∀ a ∈ l, actE a = 0) → Vu (runL u l).1
  | [], u, h, _ => h
  | a :: l, u, h, ha => runL_valid l _ (done_valid h (ha a List.mem_cons_self)) (fun b hb => ha b (List.mem_cons_of_mem _ hb))
end Go.Proofs.Ythdgdngdfijfhaa
namespace Go.Proofs.Ythdgdngdfijfhaa
open Go.RowKit Go.Proofs
set_option linter.unusedVariables false
set_option linter.unusedSimpArgs false
theorem ev_write {n p : Nat} {b : List UInt8} (hb : b ≠ []) (hp : p ≤ n) (hn : n ≤ 20000) (hm : p + b.length ≤ 20000) : sizeF n ⟨0, p, b⟩ = (max n (p + b.length), 0) := by
  have h1 : evE n ⟨0, p, b⟩ = 0 := by
    have e1 : (b == []) = false := by simpa using hb
    simp [evE, orE, ev1, ev2, ev3, ev2B, btw, rfs, e1, hp]
  have h2 : sizeN n ⟨0, p, b⟩ = max n (p + b.length) := by simp [sizeN]
  rw [sizeF, if_pos h1, h2]
  simp [rfs]; omega
theorem ev_cut {n p : Nat} (hp : p ≤ n) (hn : n ≤ 20000) : sizeF n ⟨1, p, []⟩ = (p, 0) := by
  have h1 : evE n ⟨1, p, []⟩ = 0 := by simp [evE, orE, ev1, ev2, ev3, ev2B, btw, rfs, hp]
  have h2 : sizeN n ⟨1, p, []⟩ = p := by simp [sizeN]
  rw [sizeF, if_pos h1, h2]
  simp [rfs]; omega
theorem ev_sync {n : Nat} (hn : n ≤ 20000) : sizeF n ⟨2, 0, []⟩ = (n, 0) := by
  have h1 : evE n ⟨2, 0, []⟩ = 0 := by simp [evE, orE, ev1, ev2, ev3, ev2B, btw, rfs]
  have h2 : sizeN n ⟨2, 0, []⟩ = n := by simp [sizeN]
  rw [sizeF, if_pos h1, h2]
  simp [rfs]; omega
theorem aft_write (s : List UInt8) (p : Nat) (b : List UInt8) : aftF s ⟨0, p, b⟩ = s.take p ++ b ++ s.drop (p + b.length) := by
  simp only [aftF, if_true, Int.toNat_natCast]
  congr 1
  rcases Nat.le_total (p + b.length) s.length with h | h
  · rw [Nat.min_eq_left h]
  · rw [Nat.min_eq_right h, List.drop_of_length_le (Nat.le_refl _), List.drop_of_length_le h]
theorem aft_cut (s : List UInt8) (p : Nat) : aftF s ⟨1, p, []⟩ = s.take p := by simp [aftF]
theorem aft_sync (s : List UInt8) : aftF s ⟨2, 0, []⟩ = s := by simp [aftF]
def EvTo (s : List UInt8) (l : List Ev) (t : List UInt8) : Prop := EvV s.length l ∧ wrF s l = t
theorem EvTo.nil (s : List UInt8) : EvTo s [] s := ⟨trivial, rfl⟩
theorem EvTo.cons {s t : List UInt8} {x : Ev} {l : List Ev} (h : (sizeF s.length x).2 = 0) (ht : EvTo (aftF s x) l t) : EvTo s (x :: l) t := by
  obtain ⟨h1, h2, _⟩ := sizeF_le h
  refine ⟨⟨h, ?_⟩, ht.2⟩
  rw [h2, ← aft_len h1]; exact ht.1
theorem EvTo.append {s t r : List UInt8} : ∀ {l l2 : List Ev}, EvTo s l t → EvTo t l2 r → EvTo s (l ++ l2) r := by
  intro l
  induction l generalizing s with
  | nil => intro l2 h h2; obtain ⟨_, rfl⟩ := h; exact h2
  | cons x l ih =>
    intro l2 h h2
    obtain ⟨⟨h3, h4⟩, h5⟩ := h
    obtain ⟨h6, h7, _⟩ := sizeF_le h3
    rw [h7, ← aft_len h6] at h4
    exact EvTo.cons h3 (ih ⟨h4, h5⟩ h2)
theorem evto_sync {s : List UInt8} (hs : s.length ≤ 20000) : EvTo s [⟨2, 0, []⟩] s :=
  EvTo.cons (by rw [ev_sync hs]) (by rw [aft_sync]; exact EvTo.nil s)
theorem evto_write {s b : List UInt8} {p : Nat} (hb : b ≠ []) (hp : p ≤ s.length) (hs : s.length ≤ 20000) (hm : p + b.length ≤ 20000) : EvTo s [⟨0, p, b⟩] (s.take p ++ b ++ s.drop (p + b.length)) :=
  EvTo.cons (by rw [ev_write hb hp hs hm]) (by rw [aft_write]; exact EvTo.nil _)
theorem evto_seq {s t : List UInt8} {n : Nat} (hn : n ≤ s.length) (hs : s.length ≤ 20000) (ht : t.length ≤ 20000) (hnt : n < t.length) (he : s.take n = t.take n) :
    EvTo s ((if n < s.length then [⟨1, (n : Nat), []⟩] else []) ++ [⟨0, (n : Nat), t.drop n⟩]) t := by
  have hne : t.drop n ≠ [] := by intro e; have := congrArg List.length e; simp at this; omega
  have key : ∀ r : List UInt8, r.length = n → r = t.take n → EvTo r [⟨0, (n : Nat), t.drop n⟩] t := fun r hr e => by
    have hl2 : (t.drop n).length = t.length - n := List.length_drop
    have h := evto_write (s := r) (p := n) (b := t.drop n) hne (by omega) (by omega) (by omega)
    have e3 : r.take n ++ t.drop n ++ r.drop (n + (t.drop n).length) = t := by
      rw [List.take_of_length_le (l := r) (by omega), List.drop_of_length_le (l := r) (by omega), List.append_nil, e, List.take_append_drop]
    rw [e3] at h; exact h
  by_cases hlt : n < s.length
  · rw [if_pos hlt]
    refine EvTo.append (EvTo.cons (by rw [ev_cut hn hs]) (EvTo.nil _)) (key _ ?_ ?_)
    · rw [aft_cut]; simp; omega
    · rw [aft_cut]; exact he
  · rw [if_neg hlt, List.nil_append]
    have hl : s.length = n := by omega
    rw [List.take_of_length_le (by omega)] at he
    exact key s hl he
theorem evto_dir {s C : List UInt8} {T : Nat} (hC : C ≠ []) (hs : s.length ≤ 20000) (hT : T + C.length ≤ 20000) :
    EvTo s ((if s.length < T then [⟨0, (s.length : Nat), List.replicate (T - s.length) 0⟩] else []) ++ [⟨0, (T : Nat), C⟩])
      ((s ++ List.replicate (T - s.length) 0).take T ++ C ++ s.drop (T + C.length)) := by
  by_cases hlt : s.length < T
  · rw [if_pos hlt]
    have h1 := evto_write (s := s) (p := s.length) (b := List.replicate (T - s.length) 0) (by intro e; have := congrArg List.length e; simp at this; omega) (Nat.le_refl _) hs (by simp; omega)
    rw [List.take_length, List.drop_of_length_le (by simp), List.append_nil] at h1
    have hl : (s ++ List.replicate (T - s.length) 0).length = T := by simp; omega
    have h2 := evto_write (s := s ++ List.replicate (T - s.length) 0) (p := T) hC (by omega) (by omega) hT
    rw [List.drop_of_length_le (by omega), List.append_nil] at h2
    rw [List.drop_of_length_le (l := s) (by omega), List.append_nil]
    exact h1.append h2
  · rw [if_neg hlt, List.nil_append, show T - s.length = 0 by omega, List.replicate_zero, List.append_nil]
    exact evto_write hC (by omega) hs hT
theorem sl_zeros (w : Nat) : ∀ (k n : Nat), sl w (List.replicate k ([], false)) n = List.replicate (k * (w + 4)) 0
  | 0, n => by simp [sl]
  | k + 1, n => by
    rw [List.replicate_succ, sl, sl_zeros w k (n + 1), slot1, if_neg (by decide), List.replicate_append_replicate, Nat.add_mul]
    congr 1; omega
theorem sl_append (w : Nat) : ∀ (A B : List (List UInt8 × Bool)) (n : Nat), sl w (A ++ B) n = sl w A n ++ sl w B (n + A.length)
  | [], B, n => by simp [sl]
  | x :: A, B, n => by simp only [List.cons_append, sl, sl_append w A B (n + 1), List.append_assoc, List.length_cons, show n + 1 + A.length = n + (A.length + 1) by omega]
theorem sl_set (w : Nat) (R : List (List UInt8 × Bool)) (i : Nat) (x : List UInt8 × Bool) (hi : i < R.length) (hR : ∀ y ∈ R, okR w y) :
    sl w (R.set i x) 1 = (sl w R 1).take (i * (w + 4)) ++ slot1 w (i + 1) x ++ (sl w R 1).drop ((i + 1) * (w + 4)) := by
  have e0 : R.set i x = R.take i ++ x :: R.drop (i + 1) := List.set_eq_take_append_cons_drop.trans (by rw [if_pos hi])
  have e1 : R = R.take i ++ R.drop i := (List.take_append_drop i R).symm
  have e2 : R = R.take (i + 1) ++ R.drop (i + 1) := (List.take_append_drop (i + 1) R).symm
  have hl1 : (R.take i).length = i := by simp; omega
  have hl2 : (R.take (i + 1)).length = i + 1 := by simp; omega
  have l1 : (sl w (R.take i) 1).length = i * (w + 4) := by rw [sl_len w _ 1 (fun y hy => hR y (List.mem_of_mem_take hy)), hl1]
  have l2 : (sl w (R.take (i + 1)) 1).length = (i + 1) * (w + 4) := by rw [sl_len w _ 1 (fun y hy => hR y (List.mem_of_mem_take hy)), hl2]
  have t1 : (sl w R 1).take (i * (w + 4)) = sl w (R.take i) 1 := by
    conv => lhs; rw [e1, sl_append]
    rw [← l1]; exact List.take_left
  have t2 : (sl w R 1).drop ((i + 1) * (w + 4)) = sl w (R.drop (i + 1)) (1 + (i + 1)) := by
    conv => lhs; rw [e2, sl_append, hl2]
    rw [← l2]; exact List.drop_left
  rw [e0, sl_append, sl, t1, t2, hl1, List.append_assoc, show 1 + i = i + 1 by omega, show 1 + (i + 1) = i + 1 + 1 by omega]
theorem done_cases (u : Un) (a : Ac) (h : Vu u) (hk0 : 0 ≤ a.kind) (hk7 : a.kind ≤ 7) :
    ((doneF u a).1 = { u with pos := (doneF u a).1.pos } ∧ (a.kind = 6 → (doneF u a).1 = u)) ∨ ((doneF u a).2.status = 0 ∧ a.kind ≠ 6 ∧
    ((u.access = 2 ∧ u.pos + a.bytes.length ≤ 4000 ∧ (doneF u a).1 = { u with bytes := u.bytes.take u.pos.toNat ++ a.bytes ++ u.bytes.drop (u.pos.toNat + a.bytes.length), pos := u.pos + a.bytes.length }) ∨
     (u.access = 1 ∧ 1 ≤ a.number ∧ a.number ≤ 60 ∧ (a.bytes.length : Int) ≤ u.width ∧ (doneF u a).1 = { u with
        recs := (u.recs ++ List.replicate (a.number.toNat - u.recs.length) []).set (a.number - 1).toNat (a.bytes ++ List.replicate (u.width - (a.bytes.length : Int)).toNat 32),
        there := (u.there ++ List.replicate (a.number.toNat - u.there.length) false).set (a.number - 1).toNat true }) ∨
     (u.access = 0 ∧ u.pos ≤ u.recs.length ∧ (doneF u a).1 = { u with recs := u.recs.take u.pos.toNat, ended := true, pos := u.pos + 1 }) ∨
     (u.access = 0 ∧ u.pos ≤ u.recs.length ∧ (doneF u a).1 = { u with recs := u.recs.take u.pos.toNat ++ [a.bytes], ended := false, pos := u.pos + 1 }))) := by
  have hac : u.access = 0 ∨ u.access = 1 ∨ u.access = 2 := by
    obtain ⟨h1, _⟩ | ⟨h1, _⟩ | ⟨h1, _⟩ := h
    · exact .inl h1
    · exact .inr (.inl h1)
    · exact .inr (.inr h1)
  have same : ∀ q : Un × An, doneF u a = q → q.1 = { u with pos := q.1.pos } → (a.kind = 6 → q.1 = u) → ((doneF u a).1 = { u with pos := (doneF u a).1.pos } ∧ (a.kind = 6 → (doneF u a).1 = u)) := fun q e e1 e2 => by rw [e]; exact ⟨e1, e2⟩
  by_cases h1 : permF u.access a.kind = false
  · exact .inl (same (u, stA 2) (by rw [doneF, if_pos h1]) rfl (fun _ => rfl))
  by_cases h6 : a.kind = 6
  · exact .inl (same (u, stA 0) (by rw [doneF, if_neg h1, if_pos h6]) rfl (fun _ => rfl))
  by_cases h7 : a.kind = 7
  · exact .inl (same (u, ⟨0, [], if u.access = 1 then (u.recs.length : Int) else u.pos + 1⟩) (by rw [doneF, if_neg h1, if_neg h6, if_pos h7]) rfl (fun _ => rfl))
  by_cases h3 : a.kind = 3
  · exact .inl (same ({ u with pos := 0 }, stA 0) (by rw [doneF, if_neg h1, if_neg h6, if_neg h7, if_pos h3]) rfl (fun e => absurd e h6))
  have n6 : ∀ {p : Prop}, a.kind = 6 → p := fun e => absurd e h6
  rcases hac with hac | hac | hac
  · have e0 : doneF u a = seqF u a := by rw [doneF, if_neg h1, if_neg h6, if_neg h7, if_neg h3, if_pos hac]
    by_cases k2 : a.kind = 2
    · by_cases hb : (u.recs.length : Int) < u.pos
      · exact .inl (same _ (by rw [e0, seqF, if_pos k2, if_pos hb]) rfl n6)
      · exact .inl (same _ (by rw [e0, seqF, if_pos k2, if_neg hb]) rfl n6)
    by_cases hb : (u.recs.length : Int) < u.pos
    · exact .inl (same _ (by rw [e0, seqF, if_neg k2, if_pos hb]) rfl n6)
    by_cases k0 : a.kind = 0
    · by_cases hp : u.pos = u.recs.length
      · exact .inl (same _ (by rw [e0, seqF, if_neg k2, if_neg hb, if_pos k0, if_pos hp]) rfl n6)
      · exact .inl (same _ (by rw [e0, seqF, if_neg k2, if_neg hb, if_pos k0, if_neg hp]) rfl n6)
    by_cases k4 : a.kind = 4
    · have e : doneF u a = ({ u with recs := u.recs.take u.pos.toNat, ended := true, pos := u.pos + 1 }, stA 0) := by rw [e0, seqF, if_neg k2, if_neg hb, if_neg k0, if_pos k4]
      rw [e]
      exact .inr ⟨rfl, h6, .inr (.inr (.inl ⟨hac, by omega, rfl⟩))⟩
    by_cases hl : 200 < a.bytes.length
    · exact .inl (same _ (by rw [e0, seqF, if_neg k2, if_neg hb, if_neg k0, if_neg k4, if_pos hl]) rfl n6)
    by_cases h60 : u.pos = 60
    · exact .inl (same _ (by rw [e0, seqF, if_neg k2, if_neg hb, if_neg k0, if_neg k4, if_neg hl, if_pos h60]) rfl n6)
    have e : doneF u a = ({ u with recs := u.recs.take u.pos.toNat ++ [a.bytes], ended := false, pos := u.pos + 1 }, stA 0) := by rw [e0, seqF, if_neg k2, if_neg hb, if_neg k0, if_neg k4, if_neg hl, if_neg h60]
    rw [e]
    exact .inr ⟨rfl, h6, .inr (.inr (.inr ⟨hac, by omega, rfl⟩))⟩
  · have e0 : doneF u a = dirF u a := by rw [doneF, if_neg h1, if_neg h6, if_neg h7, if_neg h3, if_neg (by omega), if_pos hac]
    by_cases hb : btw a.number 1 60 = true
    · have hb2 := hb
      rw [btw_true] at hb2
      by_cases k0 : a.kind = 0
      · by_cases hl : (u.recs.length : Int) ≤ a.number - 1
        · exact .inl (same _ (by rw [e0, dirF, if_pos hb, if_pos k0, if_pos hl]) rfl n6)
        · by_cases ht : (u.there[(a.number - 1).toNat]?).getD false = true
          · exact .inl (same _ (by rw [e0, dirF, if_pos hb, if_pos k0, if_neg hl, if_pos ht]) rfl n6)
          · exact .inl (same _ (by rw [e0, dirF, if_pos hb, if_pos k0, if_neg hl, if_neg ht]) rfl n6)
      · by_cases hl : u.width < (a.bytes.length : Int)
        · exact .inl (same _ (by rw [e0, dirF, if_pos hb, if_neg k0, if_pos hl]) rfl n6)
        · rw [e0, dirF, if_pos hb, if_neg k0, if_neg hl]
          exact .inr ⟨rfl, h6, .inr (.inl ⟨hac, hb2.1, hb2.2, by omega, rfl⟩)⟩
    · exact .inl (same _ (by rw [e0, dirF, if_neg hb]) rfl n6)
  · have e0 : doneF u a = strF u a := by rw [doneF, if_neg h1, if_neg h6, if_neg h7, if_neg h3, if_neg (by omega), if_neg (by omega)]
    by_cases k5 : a.kind = 5
    · by_cases hb : btw a.number 1 ((u.bytes.length : Int) + 1) = true
      · exact .inl (same _ (by rw [e0, strF, if_pos k5, if_pos hb]) rfl n6)
      · exact .inl (same _ (by rw [e0, strF, if_pos k5, if_neg hb]) rfl n6)
    by_cases k0 : a.kind = 0
    · by_cases hb : btw a.number 1 4000 = true
      · by_cases hl : (u.bytes.length : Int) - u.pos < a.number
        · exact .inl (same _ (by rw [e0, strF, if_neg k5, if_pos k0, if_pos hb, if_pos hl]) rfl n6)
        · exact .inl (same _ (by rw [e0, strF, if_neg k5, if_pos k0, if_pos hb, if_neg hl]) rfl n6)
      · exact .inl (same _ (by rw [e0, strF, if_neg k5, if_pos k0, if_neg hb]) rfl n6)
    by_cases hl : 4000 < u.pos + (a.bytes.length : Int)
    · exact .inl (same _ (by rw [e0, strF, if_neg k5, if_neg k0, if_pos hl]) rfl n6)
    have e : doneF u a = ({ u with bytes := u.bytes.take u.pos.toNat ++ a.bytes ++ u.bytes.drop (u.pos.toNat + a.bytes.length), pos := u.pos + (a.bytes.length : Int) }, stA 0) := by rw [e0, strF, if_neg k5, if_neg k0, if_neg hl]
    rw [e]
    exact .inr ⟨rfl, h6, .inl ⟨hac, by omega, rfl⟩⟩
theorem evF_same {u v : Un} {a : Ac} (hk : a.kind ≠ 6) (he : bytesF u = bytesF v) : evF u a v = [] := by rw [evF, if_neg hk, if_pos he]
theorem bytes_sq {u : Un} (h : u.access = 0) : bytesF u = framesF u.recs ++ (if u.ended = true then frmF 69 [] else []) := by simp [bytesF, h]
theorem bytes_dr {u : Un} (h : u.access = 1) : bytesF u = slotsN u u.recs.length := by simp [bytesF, h]
theorem zip_ok {u : Un} (h : Vu u) (hac : u.access = 1) : ∃ w : Nat, u.width = (w : Int) ∧ w ≤ 200 ∧ 1 ≤ w ∧ u.recs.length ≤ 60 ∧ u.there.length = u.recs.length ∧ (u.recs.zip u.there).length = u.recs.length ∧ (∀ x ∈ u.recs.zip u.there, okR w x) ∧ bytesF u = sl w (u.recs.zip u.there) 1 := by
  obtain ⟨h1, _⟩ | ⟨_, hw0, hw1, hn, ht, hst, hl, hb, he, hpz⟩ | ⟨h1, _⟩ := h
  · omega
  · obtain ⟨w, hw⟩ : ∃ w : Nat, u.width = (w : Int) := ⟨u.width.toNat, by omega⟩
    have hzl : (u.recs.zip u.there).length = u.recs.length := by simp [ht]
    refine ⟨w, hw, by omega, by omega, hn, ht, hzl, ?_, ?_⟩
    · intro x hx
      obtain ⟨i, hi⟩ := List.getElem?_of_mem hx
      obtain ⟨s, t⟩ := x
      rw [List.getElem?_zip_eq_some] at hi
      have := hst i s t hi.1 hi.2
      unfold okR
      split
      · rename_i e; have e : t = true := e; rw [if_pos e] at this; show s.length = w; omega
      · rename_i e; have e : ¬ t = true := e; rw [if_neg e] at this; exact List.length_eq_zero_iff.1 (by show s.length = 0; omega)
    · rw [bytes_dr hac, slots_sl u w hw ht _ (Nat.le_refl _), List.take_of_length_le (by omega)]
  · omega
theorem zip_replicate {α β : Type} (x : α) (y : β) : ∀ k, (List.replicate k x).zip (List.replicate k y) = List.replicate k (x, y)
  | 0 => rfl
  | k + 1 => by simp [List.replicate_succ, zip_replicate x y k]
theorem zip_set {α β : Type} : ∀ (A : List α) (B : List β) (i : Nat) (x : α) (y : β), (A.set i x).zip (B.set i y) = (A.zip B).set i (x, y)
  | [], B, i, x, y => by simp
  | a :: A, [], i, x, y => by cases i <;> simp
  | a :: A, b :: B, 0, x, y => by simp
  | a :: A, b :: B, i + 1, x, y => by simp [zip_set A B i x y]
theorem evto_done (u : Un) (a : Ac) (h : Vu u) (ha : actE a = 0) :
    ((doneF u a).2.status = 0 → EvTo (bytesF u) (evF u a (doneF u a).1) (bytesF (doneF u a).1)) ∧ ((doneF u a).2.status ≠ 0 → bytesF (doneF u a).1 = bytesF u) := by
  obtain ⟨⟨hk0, hk7⟩, hbl, _⟩ := (actE_zero a).1 ha
  have hv := done_valid h ha
  have hb1 := bytesF_len h
  have hb2 := bytesF_len hv
  rcases done_cases u a h hk0 hk7 with ⟨h1, h2⟩ | ⟨h1, h6, hc⟩
  · have he : bytesF (doneF u a).1 = bytesF u := by rw [h1]; exact bytesF_pos u _
    refine ⟨fun _ => ?_, fun _ => he⟩
    by_cases h6 : a.kind = 6
    · rw [h2 h6, evF, if_pos h6]; exact evto_sync hb1
    · rw [evF_same h6 he.symm, he]; exact EvTo.nil _
  refine ⟨fun _ => ?_, fun h2 => absurd h1 h2⟩
  by_cases he : bytesF u = bytesF (doneF u a).1
  · rw [evF_same h6 he, ← he]; exact EvTo.nil _
  rcases hc with ⟨hac, hm, hd⟩ | ⟨hac, hn1, hn2, hw, hd⟩ | ⟨hac, hp, hd⟩ | ⟨hac, hp, hd⟩
  · have hp0 : 0 ≤ u.pos ∧ u.pos ≤ (u.bytes.length : Int) := by
      obtain ⟨h, _⟩ | ⟨h, _⟩ | ⟨_, _, _, _, _, _, h1, h2⟩ := h
      · omega
      · omega
      · exact ⟨h1, h2⟩
    obtain ⟨p, hpp⟩ : ∃ p : Nat, u.pos = (p : Int) := ⟨u.pos.toNat, by omega⟩
    have e1 : bytesF u = u.bytes := by simp [bytesF, hac]
    have e2 : bytesF (doneF u a).1 = u.bytes.take p ++ a.bytes ++ u.bytes.drop (p + a.bytes.length) := by
      rw [hd]; simp [bytesF, hac, hpp]
    have hne : a.bytes ≠ [] := by
      intro e
      apply he
      rw [e1, e2, e]; simp
    have hev : evF u a (doneF u a).1 = [⟨0, (p : Nat), a.bytes⟩] := by rw [evF, if_neg h6, if_neg he, if_pos hac, hpp]
    rw [hev, e2, e1]
    exact evto_write hne (by omega) (by rw [← e1]; exact hb1) (by omega)
  · obtain ⟨w, hw1, hw2, hw3, hn, ht, hzl, hok, hbu⟩ := zip_ok h hac
    obtain ⟨N, hN⟩ : ∃ N : Nat, a.number = ((N + 1 : Nat) : Int) := ⟨(a.number - 1).toNat, by omega⟩
    have hT : atF u a = N * (w + 4) := by rw [atF, show a.number.toNat - 1 = N by omega, show u.width.toNat = w by omega]
    obtain ⟨x, hx⟩ : ∃ x, x = a.bytes ++ List.replicate (u.width - (a.bytes.length : Int)).toNat 32 := ⟨_, rfl⟩
    have hxl : x.length = w := by rw [hx]; simp; omega
    obtain ⟨k, hk⟩ : ∃ k, k = N + 1 - u.recs.length := ⟨_, rfl⟩
    obtain ⟨R, hR⟩ : ∃ R, u.recs.zip u.there = R := ⟨_, rfl⟩
    have hac2 : (doneF u a).1.access = 1 := by rw [hd]; exact hac
    obtain ⟨w', hw1', _, _, _, _, hzl', hok', hbv⟩ := zip_ok hv hac2
    have hww : w' = w := by have : (doneF u a).1.width = u.width := by rw [hd]
                            omega
    subst hww
    have hz : (doneF u a).1.recs.zip (doneF u a).1.there = (R ++ List.replicate k ([], false)).set N (x, true) := by
      rw [hd]
      show ((u.recs ++ List.replicate (a.number.toNat - u.recs.length) []).set (a.number - 1).toNat _).zip ((u.there ++ List.replicate (a.number.toNat - u.there.length) false).set (a.number - 1).toNat true) = _
      rw [← hx, ht, show a.number.toNat - u.recs.length = k by omega, show (a.number - 1).toNat = N by omega, zip_set, List.zip_append (by omega), zip_replicate, hR]
    rw [hR] at hzl hok hbu
    have hok2 : ∀ y ∈ R ++ List.replicate k (([] : List UInt8), false), okR w' y := by
      intro y hy
      rcases List.mem_append.1 hy with hy | hy
      · exact hok y hy
      · rw [List.eq_of_mem_replicate hy]; exact rfl
    have hlt : N < (R ++ List.replicate k (([] : List UInt8), false)).length := by simp; omega
    have hC : (slot1 w' (N + 1) (x, true)).length = w' + 4 := slot1_len _ _ _ (by exact hxl)
    have hCne : slot1 w' (N + 1) (x, true) ≠ [] := by intro e; rw [e] at hC; simp at hC
    have hsl : (sl w' R 1).length = R.length * (w' + 4) := sl_len w' R 1 hok
    have hTl : N * (w' + 4) + (w' + 4) = (N + 1) * (w' + 4) := by rw [Nat.add_mul, Nat.one_mul]
    have hTb : (N + 1) * (w' + 4) ≤ 60 * 204 := Nat.mul_le_mul (by omega) (by omega)
    have hb3 : bytesF (doneF u a).1 = (sl w' R 1 ++ List.replicate (N * (w' + 4) - (sl w' R 1).length) 0).take (N * (w' + 4)) ++ slot1 w' (N + 1) (x, true) ++ (sl w' R 1).drop (N * (w' + 4) + (w' + 4)) := by
      rw [hbv, hz, sl_set w' _ N _ hlt hok2, sl_append, sl_zeros, hTl]
      by_cases hNR : N < R.length
      · have hk0 : k = 0 := by omega
        have hm := Nat.mul_le_mul_right (w' + 4) (show N + 1 ≤ R.length by omega)
        rw [hk0, Nat.zero_mul, List.replicate_zero, List.append_nil, show N * (w' + 4) - (sl w' R 1).length = 0 by omega, List.replicate_zero, List.append_nil]
      · have hk1 : k = N + 1 - R.length := by omega
        have hm := Nat.mul_le_mul_right (w' + 4) (show R.length ≤ N by omega)
        have hkm : k * (w' + 4) = (N + 1) * (w' + 4) - R.length * (w' + 4) := by rw [hk1, Nat.sub_mul]
        have hd1 : (sl w' R 1 ++ List.replicate (k * (w' + 4)) 0).drop ((N + 1) * (w' + 4)) = [] := List.drop_of_length_le (by simp; omega)
        have hd2 : (sl w' R 1).drop ((N + 1) * (w' + 4)) = [] := List.drop_of_length_le (by omega)
        have ht1 : ∀ m, N * (w' + 4) - (sl w' R 1).length ≤ m → (sl w' R 1 ++ List.replicate m 0).take (N * (w' + 4)) = sl w' R 1 ++ List.replicate (N * (w' + 4) - (sl w' R 1).length) 0 := fun m hm => by
          rw [List.take_append, List.take_of_length_le (by omega), List.take_replicate]
          congr 2; omega
        rw [hd1, hd2, ht1 _ (by omega), ht1 _ (Nat.le_refl _)]
    have hA : ((sl w' R 1 ++ List.replicate (N * (w' + 4) - (sl w' R 1).length) 0).take (N * (w' + 4))).length = N * (w' + 4) := by simp; omega
    have hev : evF u a (doneF u a).1 = (if (sl w' R 1).length < N * (w' + 4) then [⟨0, ((sl w' R 1).length : Nat), List.replicate (N * (w' + 4) - (sl w' R 1).length) 0⟩] else []) ++ [⟨0, ((N * (w' + 4) : Nat) : Int), slot1 w' (N + 1) (x, true)⟩] := by
      rw [evF, if_neg h6, if_neg he, if_neg (by omega), if_pos hac, hT, hbu, show u.width.toNat = w' by omega]
      congr 3
      rw [hb3]
      generalize (sl w' R 1 ++ List.replicate (N * (w' + 4) - (sl w' R 1).length) 0).take (N * (w' + 4)) = A at hA ⊢
      rw [List.append_assoc, ← hA, ← hC, show A.length + (slot1 w' (N + 1) (x, true)).length = (A ++ slot1 w' (N + 1) (x, true)).length by simp, ← List.append_assoc, List.take_left, List.drop_left]
    rw [hev, hb3, hbu]
    have := evto_dir (s := sl w' R 1) (T := N * (w' + 4)) hCne (by rw [← hbu]; exact hb1) (by rw [hC]; omega)
    rw [hC] at this
    exact this
  all_goals
    have hac2 : (doneF u a).1.access = 0 := by rw [hd]; exact hac
    have hp0 : 0 ≤ u.pos := (Vu_len h).2.2.1
    have hst : (framesF (u.recs.take u.pos.toNat)).length = stayF u := rfl
    have e1 : ∃ r, bytesF u = framesF (u.recs.take u.pos.toNat) ++ r := by
      refine ⟨framesF (u.recs.drop u.pos.toNat) ++ (if u.ended = true then frmF 69 [] else []), ?_⟩
      have e2 := framesF_append (u.recs.take u.pos.toNat) (u.recs.drop u.pos.toNat)
      rw [List.take_append_drop] at e2
      rw [bytes_sq hac, e2, List.append_assoc]
    have e2 : ∃ r, 1 ≤ r.length ∧ bytesF (doneF u a).1 = framesF (u.recs.take u.pos.toNat) ++ r := by
      rw [bytes_sq hac2, hd]
      first
        | exact ⟨frmF 69 [], by rw [frmF_len]; omega, rfl⟩
        | exact ⟨frmF 82 a.bytes, by rw [frmF_len]; omega, by simp [framesF_append, framesF]⟩
    obtain ⟨r1, e1⟩ := e1
    obtain ⟨r2, hr2, e2⟩ := e2
    have hev : evF u a (doneF u a).1 = (if stayF u < (bytesF u).length then [⟨1, (stayF u : Nat), []⟩] else []) ++ [⟨0, (stayF u : Nat), (bytesF (doneF u a).1).drop (stayF u)⟩] := by
      rw [evF, if_neg h6, if_neg he, if_neg (by omega), if_neg (by omega)]
    rw [hev]
    refine evto_seq ?_ hb1 hb2 ?_ ?_
    · rw [e1, List.length_append]; omega
    · rw [e2, List.length_append]; omega
    · rw [e1, e2, ← hst, List.take_left, List.take_left]
end Go.Proofs.Ythdgdngdfijfhaa
namespace Go.Proofs.Ythdgdngdfijfhaa
open Go.RowKit Go.Proofs
set_option linter.unusedVariables false
set_option linter.unusedSimpArgs false
attribute [local irreducible] PPure CallN Tops TopsDm T
theorem evto_run : ∀ (l : List Ac) (u : Un), Vu u → (∀ a ∈ l, actE a = 0) → (evsF u l).1 = (runL u l).1 ∧ EvTo (bytesF u) (evsF u l).2.1 (bytesF (runL u l).1) ∧ (evsF u l).2.1.length ≤ 2 * l.length ∧ (evsF u l).2.2.length = l.length := by
  intro l u h ha
  obtain ⟨m, rfl⟩ : ∃ m : List Ac, l = m.reverse := ⟨l.reverse, by simp⟩
  induction m with
  | nil => exact ⟨rfl, EvTo.nil _, by simp [evsF], rfl⟩
  | cons a m ih =>
    rw [List.reverse_cons] at ha ⊢
    generalize m.reverse = l at ha ih ⊢
    have ha1 : ∀ b ∈ l, actE b = 0 := fun b hb => ha b (List.mem_append_left _ hb)
    have haa : actE a = 0 := ha a (List.mem_append_right _ List.mem_cons_self)
    obtain ⟨h1, h2, h3, h4⟩ := ih ha1
    have hv := runL_valid l u h ha1
    obtain ⟨q1, q2⟩ := evto_done _ a hv haa
    have e1 : evsF u (l ++ [a]) = evS (evsF u l) a := by rw [evsF, List.foldl_append]; rfl
    have e2 : (runL u (l ++ [a])).1 = (doneF (runL u l).1 a).1 := by rw [runL_append]
    have hel := evF_len (runL u l).1 a (doneF (runL u l).1 a).1
    rw [e1, e2, evS, h1]
    refine ⟨rfl, ?_, ?_, by simp [h4]⟩
    · by_cases hs : (doneF (runL u l).1 a).2.status = 0
      · simp only [hs, if_true]; exact h2.append (q1 hs)
      · simp only [hs, if_false]; rw [q2 hs]; exact h2
    · by_cases hs : (doneF (runL u l).1 a).2.status = 0
      · simp only [hs, if_true]; simp; omega
      · simp only [hs, if_false]; simp; omega
theorem ev_bytes : ∀ (l : List Ev) (n : Nat), EvV n l → ∀ x ∈ l, x.bytes.length ≤ 20000
  | [], _, _, _, hx => by cases hx
  | y :: l, n, h, x, hx => by
    obtain ⟨h1, h2, h3⟩ := sizeF_le h.1
    rcases List.mem_cons.1 hx with rfl | hx
    · obtain ⟨⟨g1, g2⟩, g3, g4, g5⟩ := evE_zero h1
      unfold sizeN at h3
      unfold ev2B at g3
      by_cases k : x.kind = 0
      · rw [if_pos k] at h3; omega
      · have : x.bytes = [] := by
          simp [k] at g3
          exact g3.1
        rw [this]; simp
    · exact ev_bytes l _ h.2 x hx
end Go.Proofs.Ythdgdngdfijfhaa
namespace Go.Proofs.Ythdgdngdfijfhaa
open Go.RowKit Go.Proofs
set_option linter.unusedVariables false
set_option linter.unusedSimpArgs false
attribute [local irreducible] PPure CallN Tops TopsDm T
structure Fy where
  (r k p : Nat)
def encFy (y : Fy) : PV := .agg [.int .u16 (y.r : Int), .int .u16 (y.k : Int), .int .u16 (y.p : Int)]
def okFy (y : Fy) : Prop := y.r < 65536 ∧ y.k < 65536 ∧ y.p < 65536
def atR (y : Fy) (l : List Ev) : Nat := y.r % (l.length + 1)
def atS (y : Fy) (l : List Ev) : Nat := syncL (l.take (atR y l)) 0 0
def atK (y : Fy) (l : List Ev) : Nat := atS y l + y.k % (atR y l - atS y l + 1)
def atP (y : Fy) (l : List Ev) : Nat := if atK y l < l.length then y.p % (((l[atK y l]?).map fun e => e.bytes.length).getD 0 + 1) else 0
def atY (y : Fy) (l : List Ev) : Fl := ⟨atR y l, atK y l, atP y l⟩
theorem syncL_bound : ∀ (l : List Ev) (i a : Nat), a ≤ i → syncL l i a ≤ i + l.length
  | [], i, a, h => by simp [syncL]; exact h
  | y :: l, i, a, h => by
    rw [syncL]
    split
    · have := syncL_bound l (i + 1) (i + 1) (Nat.le_refl _); simp; omega
    · have := syncL_bound l (i + 1) a (by omega); simp; omega
theorem at_bounds (y : Fy) (l : List Ev) : atR y l ≤ l.length ∧ atS y l ≤ atR y l ∧ atS y l ≤ atK y l ∧ atK y l ≤ atR y l := by
  have h1 : atR y l ≤ l.length := by have := Nat.mod_lt y.r (show 0 < l.length + 1 by omega); unfold atR; omega
  have h2 : atS y l ≤ atR y l := by
    have := syncL_bound (l.take (atR y l)) 0 0 (Nat.le_refl _)
    rw [List.length_take] at this
    unfold atS; omega
  have h3 := Nat.mod_lt y.k (show 0 < atR y l - atS y l + 1 by omega)
  refine ⟨h1, h2, ?_, ?_⟩ <;> (unfold atK; omega)
attribute [local go_sem] encEv in
set_option maxHeartbeats 4000000 in
theorem p46 (y : Fy) (l : List Ev) (hy : okFy y) (hl : l.length ≤ 1000) (hb : ∀ x ∈ l, x.bytes.length ≤ 20000) : PPure Try.prog 46 [encFy y, .list .any (l.map encEv)] (encFl (atY y l)) := by
  obtain ⟨y1, y2, y3⟩ := hy
  obtain ⟨b1, b2, b3, b4⟩ := at_bounds y l
  have h80 := p80 l (atR y l) hl b1
  rw [show syncL (l.take (atR y l)) 0 0 = atS y l from rfl] at h80
  have m1 : (y.r : Int).tmod ((l.length + 1 : Nat) : Int) = (atR y l : Int) := rfl
  have m2 : (y.k : Int).tmod ((atR y l - atS y l + 1 : Nat) : Int) = ((y.k % (atR y l - atS y l + 1) : Nat) : Int) := rfl
  have m3 : (atR y l : Int) - (atS y l : Int) = ((atR y l - atS y l : Nat) : Int) := by omega
  have m4 : ((atS y l + y.k % (atR y l - atS y l + 1) : Nat) : Int) = (atK y l : Int) := rfl
  have hk : atS y l + y.k % (atR y l - atS y l + 1) = atK y l := rfl
  simp only [encFy, encFl, atY]
  by_cases hlt : atK y l < l.length
  · have hbl := hb _ (List.getElem_mem hlt)
    have hP : atP y l = y.p % (l[atK y l].bytes.length + 1) := by rw [atP, if_pos hlt, List.getElem?_eq_getElem hlt]; rfl
    have m5 : (y.p : Int).tmod ((l[atK y l].bytes.length + 1 : Nat) : Int) = (atP y l : Int) := by rw [hP]; rfl
    have hPb : atP y l ≤ 20000 := by have := Nat.mod_lt y.p (show 0 < l[atK y l].bytes.length + 1 by omega); omega
    clear hP
    generalize atP y l = P at m5 hPb ⊢
    generalize atR y l = A at *
    generalize atS y l = S at *
    (refine ppure_of_T ok46 (by simp only [List.length_cons, List.length_nil]; decide) ?_; refine t_seq ?_)
    have hNE := True.intro; have hC := True.intro; have hA := True.intro; have hP := True.intro
    (replace hA := And.intro m1 (And.intro m2 (And.intro m3 (And.intro m4 (And.intro hk (m5))))); replace hP := And.intro h80 (True.intro); repeat' first | ((with_reducible apply gt_call); first | refine ce_callS ?_ | refine ce_callO ?_) | ((with_reducible apply gt_alloc); (refine ce_alloc ?_; intro la ha hn1; replace hNE := And.intro hNE hn1)) | ((with_reducible apply gt_box); (refine ce_boxL ?_; intro la ha hn1; replace hNE := And.intro hNE hn1)) | ((with_reducible apply gt_store); refine ce_store ?_) | ((with_reducible apply gt_conv); refine ce_conv ?_) | ((with_reducible apply gd_store); first | refine de_store ?_ | refine de_storeZ ?_) | ((with_reducible apply gt_cond); first | refine c_cond ?_ ?_ | refine c_condB ?_ ?_) | ((with_reducible apply gt_any); refine ce_val ?_) | ((with_reducible apply gd_any); refine de_val ?_) | ((with_reducible apply gt_drw); first | refine ce_drwA ?_ | refine ce_drwE ?_ | refine ce_drwK ?_ | refine ce_drwZ ?_) | with_reducible first | apply k_seq | apply t_seq | apply t_reg | apply t_nil | apply t_skip | apply t_ret | apply t_exit | apply k_seq_exit | apply k_seq_ret | apply k_blk_exit | refine k_blk_other (by decide) ?_ | apply k_blk_ret | apply k_blk | apply t_block | apply m_nil | (with_reducible intro hc; with_reducible exact Bool.noConfusion hc) | (with_reducible intro hc; replace hC := And.intro hC hc))
    all_goals ((first | refine cpendE rs46 ?_ | refine cpendNE rs46 ?_); (exact fin_eq))
  · have hP : atP y l = 0 := by rw [atP, if_neg hlt]
    rw [hP]
    (refine ppure_of_T ok46 (by simp only [List.length_cons, List.length_nil]; decide) ?_; refine t_seq ?_)
    have hNE := True.intro; have hC := True.intro; have hA := True.intro; have hP := True.intro
    (replace hA := And.intro m1 (And.intro m2 (And.intro m3 (And.intro m4 (hk)))); replace hP := And.intro h80 (True.intro); repeat' first | ((with_reducible apply gt_call); first | refine ce_callS ?_ | refine ce_callO ?_) | ((with_reducible apply gt_alloc); (refine ce_alloc ?_; intro la ha hn1; replace hNE := And.intro hNE hn1)) | ((with_reducible apply gt_box); (refine ce_boxL ?_; intro la ha hn1; replace hNE := And.intro hNE hn1)) | ((with_reducible apply gt_store); refine ce_store ?_) | ((with_reducible apply gt_conv); refine ce_conv ?_) | ((with_reducible apply gd_store); first | refine de_store ?_ | refine de_storeZ ?_) | ((with_reducible apply gt_cond); first | refine c_cond ?_ ?_ | refine c_condB ?_ ?_) | ((with_reducible apply gt_any); refine ce_val ?_) | ((with_reducible apply gd_any); refine de_val ?_) | ((with_reducible apply gt_drw); first | refine ce_drwA ?_ | refine ce_drwE ?_ | refine ce_drwK ?_ | refine ce_drwZ ?_) | with_reducible first | apply k_seq | apply t_seq | apply t_reg | apply t_nil | apply t_skip | apply t_ret | apply t_exit | apply k_seq_exit | apply k_seq_ret | apply k_blk_exit | refine k_blk_other (by decide) ?_ | apply k_blk_ret | apply k_blk | apply t_block | apply m_nil | (with_reducible intro hc; with_reducible exact Bool.noConfusion hc) | (with_reducible intro hc; replace hC := And.intro hC hc))
    all_goals ((first | refine cpendE rs46 ?_ | refine cpendNE rs46 ?_); (exact fin_eq))
end Go.Proofs.Ythdgdngdfijfhaa
namespace Go.Proofs.Ythdgdngdfijfhaa
open Go.RowKit Go.Proofs
set_option linter.unusedVariables false
set_option linter.unusedSimpArgs false
theorem nextF_part {k : UInt8} {x p r : List UInt8} (hx : x.length ≤ 200) (he : frmF k x = p ++ r) (hr : r ≠ []) : (nextF p).ok = false := by
  have hl := congrArg List.length he
  rw [frmF_len, List.length_append] at hl
  have hr1 : 1 ≤ r.length := by cases r with
    | nil => exact absurd rfl hr
    | cons c r => simp
  unfold nextF
  split
  · rfl
  · rename_i c hc
    simp only
    split
    · rfl
    · rename_i h8
      have h4 : p.take 4 = (frmF k x).take 4 := by rw [he, List.take_append_of_le_length (by omega)]
      have hn : numL ((p.take 4).drop 1) = x.length := by
        have e3 : (leB x.length 3).length = 3 := leB_len _ _
        rw [h4, frm_split, List.take_succ_cons, List.drop_succ_cons, List.drop_zero, List.take_append_of_le_length (by omega), List.take_of_length_le (by omega)]
        exact numL_leB 3 _ (by omega)
      split
      · rfl
      · rw [hn, if_pos (by omega)]; rfl
theorem open_part {rs : List (List UInt8)} {t : List UInt8} (hl : rs.length ≤ 60) (hx : ∀ x ∈ rs, x.length ≤ 200) (ht : (nextF t).ok = false) : openL 62 (framesF rs ++ t) [] = ((mkSq rs false, t.length), 0) := by
  have h2 := openL_frames rs [] (62 - rs.length) t (by simp; omega) hx
  rw [show 62 - rs.length + rs.length = 62 by omega] at h2
  obtain ⟨f, hf⟩ : ∃ f, 62 - rs.length = f + 1 := ⟨61 - rs.length, by omega⟩
  rw [h2, hf, openL, if_pos ht, List.nil_append]
def Opens (s : List UInt8) (rs : List (List UInt8)) : Prop := s.length ≤ 20000 ∧ ∃ e n, openL 62 s [] = ((mkSq rs e, n), 0)
theorem opens_unit {u : Un} (h : Vu u) (hac : u.access = 0) : Opens (bytesF u) u.recs := by
  refine ⟨bytesF_len h, u.ended, 0, ?_⟩
  rw [open_seq u h hac]
  obtain ⟨_, hw, hn, hs, ht, hb, hp0, hp1⟩ | ⟨h1, _⟩ | ⟨h1, _⟩ := h
  · obtain ⟨ac, w, rs, th, by_, en, po⟩ := u
    simp at hac hw ht hb
    simp [mkSq, hac, hw, ht, hb]
  · omega
  · omega
theorem opens_part {rs : List (List UInt8)} {k : UInt8} {x p r : List UInt8} (hl : rs.length ≤ 60) (hx : ∀ y ∈ rs, y.length ≤ 200) (hx2 : x.length ≤ 200) (he : frmF k x = p ++ r) (hr : r ≠ []) (hs : (framesF rs ++ p).length ≤ 20000) :
    Opens (framesF rs ++ p) rs := ⟨hs, false, _, open_part hl hx (nextF_part hx2 he hr)⟩
theorem recs_valid {u : Un} (h : Vu u) (hac : u.access = 0) : u.recs.length ≤ 60 ∧ (∀ x ∈ u.recs, x.length ≤ 200) ∧ 0 ≤ u.pos := by
  obtain ⟨_, hw, hn, hs, ht, hb, hp0, hp1⟩ | ⟨h1, _⟩ | ⟨h1, _⟩ := h
  · exact ⟨hn, hs, hp0⟩
  · omega
  · omega
def fileAt (s : List UInt8) (E : List Ev) (K part : Nat) : List UInt8 :=
  if 0 < part then aftF (wrF s (E.take K)) { (E[K]?).getD ⟨0, 0, []⟩ with bytes := ((E[K]?).getD ⟨0, 0, []⟩).bytes.take part } else wrF s (E.take K)
def partOK (E : List Ev) (K part : Nat) : Prop := K ≤ E.length ∧ part ≤ ((E[K]?).map fun e => if e.kind = 0 then e.bytes.length else 0).getD 0
theorem act_break (u : Un) (a : Ac) (h : Vu u) (hac : u.access = 0) (ha : actE a = 0) (K part : Nat)
    (hk : partOK (if (doneF u a).2.status = 0 then evF u a (doneF u a).1 else []) K part)
    (hK : K < (if (doneF u a).2.status = 0 then evF u a (doneF u a).1 else []).length) :
    (Opens (fileAt (bytesF u) (if (doneF u a).2.status = 0 then evF u a (doneF u a).1 else []) K part) u.recs) ∨
    (Opens (fileAt (bytesF u) (if (doneF u a).2.status = 0 then evF u a (doneF u a).1 else []) K part) (u.recs.take u.pos.toNat) ∧ u.pos ≤ u.recs.length) ∨
    (Opens (fileAt (bytesF u) (if (doneF u a).2.status = 0 then evF u a (doneF u a).1 else []) K part) (doneF u a).1.recs) := by
  obtain ⟨⟨hk0, hk7⟩, hbl, _⟩ := (actE_zero a).1 ha
  have hv := done_valid h ha
  have hb1 := bytesF_len h
  have hb2 := bytesF_len hv
  obtain ⟨r1, r2, r3⟩ := recs_valid h hac
  by_cases hst' : ¬ (doneF u a).2.status = 0
  · simp only [if_neg hst'] at hK; simp at hK
  have hst := Classical.not_not.1 hst'
  simp only [if_pos hst] at hk hK ⊢
  rcases done_cases u a h hk0 hk7 with ⟨h1, h2⟩ | ⟨_, h6, hc⟩
  · have he : bytesF (doneF u a).1 = bytesF u := by rw [h1]; exact bytesF_pos u _
    by_cases h6 : a.kind = 6
    · have hev : evF u a (doneF u a).1 = [⟨2, 0, []⟩] := by rw [evF, if_pos h6]
      rw [hev] at hk hK ⊢
      have hK0 : K = 0 := by simpa using hK
      subst hK0
      have hp0 : part = 0 := by have := hk.2; simpa using this
      subst hp0
      exact .inl (opens_unit h hac)
    · rw [evF_same h6 he.symm] at hK; simp at hK
  by_cases he : bytesF u = bytesF (doneF u a).1
  · rw [evF_same h6 he] at hK; simp at hK
  have hac2 : (doneF u a).1.access = 0 ∧ u.pos ≤ u.recs.length ∧ ∃ k x, x.length ≤ 200 ∧ bytesF (doneF u a).1 = framesF (u.recs.take u.pos.toNat) ++ frmF k x := by
    have hb3 := recs_valid hv
    rcases hc with ⟨hac2, _⟩ | ⟨hac2, _⟩ | ⟨_, hp, hd⟩ | ⟨_, hp, hd⟩
    · omega
    · omega
    · have hq : (doneF u a).1.access = 0 := by rw [hd]; exact hac
      refine ⟨hq, hp, 69, [], by simp, ?_⟩
      rw [bytes_sq hq, hd]; rfl
    · have hq : (doneF u a).1.access = 0 := by rw [hd]; exact hac
      have hx : a.bytes.length ≤ 200 := by
        have := (hb3 hq).2.1 a.bytes (by rw [hd]; simp)
        exact this
      refine ⟨hq, hp, 82, a.bytes, hx, ?_⟩
      rw [bytes_sq hq, hd]; simp [framesF_append, framesF]
  obtain ⟨hq, hp, k, x, hx, hbv⟩ := hac2
  have hst2 : (framesF (u.recs.take u.pos.toNat)).length = stayF u := rfl
  have e1 : (bytesF u).take (stayF u) = framesF (u.recs.take u.pos.toNat) := by
    have e2 := framesF_append (u.recs.take u.pos.toNat) (u.recs.drop u.pos.toNat)
    rw [List.take_append_drop] at e2
    rw [bytes_sq hac, e2, List.append_assoc, ← hst2, List.take_left]
  have hsl : stayF u ≤ (bytesF u).length := by
    have := congrArg List.length e1
    rw [List.length_take, hst2] at this; omega
  have hdr : (bytesF (doneF u a).1).drop (stayF u) = frmF k x := by rw [hbv, ← hst2, List.drop_left]
  have hev : evF u a (doneF u a).1 = (if stayF u < (bytesF u).length then [⟨1, (stayF u : Nat), []⟩] else []) ++ [⟨0, (stayF u : Nat), frmF k x⟩] := by
    rw [evF, if_neg h6, if_neg he, if_neg (by omega), if_neg (by omega), hdr]
  have r4 : (u.recs.take u.pos.toNat).length ≤ 60 := by rw [List.length_take]; omega
  have r5 : ∀ y ∈ u.recs.take u.pos.toNat, y.length ≤ 200 := fun y hy => r2 y (List.mem_of_mem_take hy)
  -- the write, whole or in part, behind the frames that stay
  have key : ∀ (t : List UInt8) (q : Nat), t = framesF (u.recs.take u.pos.toNat) → q ≤ (frmF k x).length →
      Opens (if 0 < q then aftF t ⟨0, (stayF u : Nat), (frmF k x).take q⟩ else t) (u.recs.take u.pos.toNat) ∨ Opens (if 0 < q then aftF t ⟨0, (stayF u : Nat), (frmF k x).take q⟩ else t) (doneF u a).1.recs := by
    intro t q ht hq2
    have hF : (if 0 < q then aftF t ⟨0, (stayF u : Nat), (frmF k x).take q⟩ else t) = framesF (u.recs.take u.pos.toNat) ++ (frmF k x).take q := by
      by_cases h0 : 0 < q
      · rw [if_pos h0, aft_write, ht, ← hst2, List.take_length, List.drop_of_length_le (by omega), List.append_nil]
      · rw [if_neg h0, ht, show q = 0 by omega, List.take_zero, List.append_nil]
    rw [hF]
    by_cases hfull : q = (frmF k x).length
    · right
      rw [hfull, List.take_length, ← hbv]
      exact opens_unit hv hq
    · left
      refine opens_part r4 r5 hx (List.take_append_drop q (frmF k x)).symm ?_ ?_
      · intro e; have := congrArg List.length e; simp at this; omega
      · have := congrArg List.length hbv
        simp only [List.length_append, List.length_take] at this ⊢; omega
  rw [hev] at hk hK ⊢
  by_cases hlt : stayF u < (bytesF u).length
  · simp only [if_pos hlt] at hk hK ⊢
    simp at hK
    rcases (show K = 0 ∨ K = 1 by omega) with rfl | rfl
    · have hp0 : part = 0 := by have := hk.2; simpa using this
      subst hp0
      exact .inl (opens_unit h hac)
    · have hp1 : part ≤ (frmF k x).length := by have := hk.2; simpa using this
      have ht : aftF (bytesF u) ⟨1, (stayF u : Nat), []⟩ = framesF (u.recs.take u.pos.toNat) := by rw [aft_cut, e1]
      rcases key _ part ht hp1 with h | h
      · exact .inr (.inl ⟨h, hp⟩)
      · exact .inr (.inr h)
  · simp only [if_neg hlt, List.nil_append] at hk hK ⊢
    have hK0 : K = 0 := by simpa using hK
    subst hK0
    have hp1 : part ≤ (frmF k x).length := by have := hk.2; simpa using this
    have ht : bytesF u = framesF (u.recs.take u.pos.toNat) := by rw [← e1, List.take_of_length_le (by omega)]
    rcases key _ part ht hp1 with h | h
    · exact .inr (.inl ⟨h, hp⟩)
    · exact .inr (.inr h)
end Go.Proofs.Ythdgdngdfijfhaa
namespace Go.Proofs.Ythdgdngdfijfhaa
open Go.RowKit Go.Proofs
set_option linter.unusedVariables false
set_option linter.unusedSimpArgs false
theorem done_acc {u : Un} {a : Ac} (h : Vu u) (ha : actE a = 0) : (doneF u a).1.access = u.access := by
  obtain ⟨⟨hk0, hk7⟩, _⟩ := (actE_zero a).1 ha
  rcases done_cases u a h hk0 hk7 with ⟨h1, _⟩ | ⟨_, _, ⟨_, _, h1⟩ | ⟨_, _, _, _, h1⟩ | ⟨_, _, h1⟩ | ⟨_, _, h1⟩⟩ <;> rw [h1]
theorem runL_acc : ∀ (l : List Ac) (u : Un), Vu u → (∀ a ∈ l, actE a = 0) → (runL u l).1.access = u.access
  | [], _, _, _ => rfl
  | a :: l, u, h, ha => by
    rw [runL, runL_acc l _ (done_valid h (ha a List.mem_cons_self)) (fun b hb => ha b (List.mem_cons_of_mem _ hb)), done_acc h (ha a List.mem_cons_self)]
def wfB (a : Ac) : Prop := a.kind = 1 ∨ a.kind = 6
theorem done_app {u : Un} {a : Ac} (hac : u.access = 0) (hp : u.pos = u.recs.length) (ha : wfB a) :
    (doneF u a).1.pos = (doneF u a).1.recs.length ∧ ∃ t, (doneF u a).1.recs = u.recs ++ t := by
  have same : ∀ q : Un × An, doneF u a = q → q.1 = u → (doneF u a).1.pos = (doneF u a).1.recs.length ∧ ∃ t, (doneF u a).1.recs = u.recs ++ t := fun q e e1 => by
    rw [e, e1]; exact ⟨hp, [], by simp⟩
  rcases ha with hk | hk
  · have e0 : doneF u a = seqF u a := by
      unfold doneF
      rw [if_neg (by simp [permF, hk]), if_neg (by omega), if_neg (by omega), if_neg (by omega), if_pos hac]
    have e1 : seqF u a = if 200 < a.bytes.length then (u, stA 5) else if u.pos = 60 then (u, stA 6) else ({ u with recs := u.recs.take u.pos.toNat ++ [a.bytes], ended := false, pos := u.pos + 1 }, stA 0) := by
      unfold seqF
      rw [if_neg (by omega), if_neg (by omega), if_neg (by omega), if_neg (by omega)]
    rw [e1] at e0
    by_cases h1 : 200 < a.bytes.length
    · rw [if_pos h1] at e0; exact same _ e0 rfl
    rw [if_neg h1] at e0
    by_cases h2 : u.pos = 60
    · rw [if_pos h2] at e0; exact same _ e0 rfl
    rw [if_neg h2] at e0
    rw [e0]
    have e2 : u.recs.take u.pos.toNat = u.recs := List.take_of_length_le (by omega)
    exact ⟨by simp [e2]; omega, [a.bytes], by simp [e2]⟩
  · refine same (u, stA 0) ?_ rfl
    unfold doneF
    rw [if_neg (by simp [permF, hk]), if_pos hk]
theorem runL_app : ∀ (l : List Ac) (u : Un), Vu u → (∀ a ∈ l, actE a = 0) → u.access = 0 → u.pos = u.recs.length → (∀ a ∈ l, wfB a) →
    (runL u l).1.pos = (runL u l).1.recs.length ∧ ∃ t, (runL u l).1.recs = u.recs ++ t
  | [], u, _, _, _, hp, _ => ⟨hp, [], by simp [runL]⟩
  | a :: l, u, h, ha, hac, hp, hw => by
    have h1 := ha a List.mem_cons_self
    obtain ⟨g1, t, g2⟩ := done_app hac hp (hw a List.mem_cons_self)
    obtain ⟨k1, t2, k2⟩ := runL_app l _ (done_valid h h1) (fun b hb => ha b (List.mem_cons_of_mem _ hb)) (by rw [done_acc h h1, hac]) g1 (fun b hb => hw b (List.mem_cons_of_mem _ hb))
    exact ⟨k1, t ++ t2, by rw [runL, k2, g2, List.append_assoc]⟩
theorem fileAt_left {s : List UInt8} {E D : List Ev} {K part : Nat} (h : K < E.length) : fileAt s (E ++ D) K part = fileAt s E K part := by
  rw [fileAt, fileAt, List.take_append_of_le_length (by omega), List.getElem?_append_left h]
theorem partOK_left {E D : List Ev} {K part : Nat} (h : K < E.length) (hk : partOK (E ++ D) K part) : partOK E K part := by
  obtain ⟨_, h2⟩ := hk
  rw [List.getElem?_append_left h] at h2
  exact ⟨by omega, h2⟩
theorem wrF_append (s : List UInt8) (E D : List Ev) : wrF s (E ++ D) = wrF (wrF s E) D := by simp [wrF, List.foldl_append]
theorem fileAt_right {s : List UInt8} {E D : List Ev} {K part : Nat} (h : E.length ≤ K) : fileAt s (E ++ D) K part = fileAt (wrF s E) D (K - E.length) part := by
  rw [fileAt, fileAt, List.take_append, List.take_of_length_le h, wrF_append, List.getElem?_append_right h]
theorem partOK_right {E D : List Ev} {K part : Nat} (h : E.length ≤ K) (hk : partOK (E ++ D) K part) : partOK D (K - E.length) part := by
  obtain ⟨h1, h2⟩ := hk
  rw [List.getElem?_append_right h] at h2
  rw [List.length_append] at h1
  exact ⟨by omega, h2⟩
def WholeP (u : Un) (l : List Ac) (K part : Nat) : Prop :=
  ∃ j rs, j ≤ l.length ∧ Opens (fileAt (bytesF u) (evsF u l).2.1 K part) rs ∧ rs <+: (runL u (l.take j)).1.recs ∧
    (∀ (i : Nat) (m : Int), (evsF u l).2.2[i]? = some m → m ≤ (K : Int) → i < j) ∧ (u.pos = u.recs.length → (∀ a ∈ l, wfB a) → rs = (runL u (l.take j)).1.recs)
theorem whole_end {u : Un} {l : List Ac} (h : Vu u) (hac : u.access = 0) (ha : ∀ a ∈ l, actE a = 0) {part : Nat} (hk : partOK (evsF u l).2.1 (evsF u l).2.1.length part) : WholeP u l (evsF u l).2.1.length part := by
  obtain ⟨_, e2, _, e4⟩ := evto_run l u h ha
  have hp : part = 0 := by have := hk.2; simpa using this
  refine ⟨l.length, (runL u l).1.recs, Nat.le_refl _, ?_, by rw [List.take_length]; exact List.prefix_refl _, fun i m hi _ => ?_, fun _ _ => by rw [List.take_length]⟩
  · rw [fileAt, if_neg (by omega), List.take_length, e2.2]
    exact opens_unit (runL_valid l u h ha) (by rw [runL_acc l u h ha, hac])
  · have := (List.getElem?_eq_some_iff.1 hi).1
    omega
theorem whole (l : List Ac) (u : Un) (h : Vu u) (hac : u.access = 0) : ∀ (K part : Nat), (∀ a ∈ l, actE a = 0) → partOK (evsF u l).2.1 K part → WholeP u l K part := by
  obtain ⟨m, rfl⟩ : ∃ m : List Ac, l = m.reverse := ⟨l.reverse, by simp⟩
  induction m with
  | nil =>
    intro K part ha hk
    have h1 := hk.1
    have hK : K = (evsF u []).2.1.length := by simp [evsF] at h1 ⊢; exact h1
    subst hK
    exact whole_end h hac ha hk
  | cons a m ih =>
    intro K part ha hk
    rw [List.reverse_cons] at ha hk ⊢
    generalize m.reverse = l at ha ih hk ⊢
    have ha1 : ∀ b ∈ l, actE b = 0 := fun b hb => ha b (List.mem_append_left _ hb)
    have haa : actE a = 0 := ha a (List.mem_append_right _ List.mem_cons_self)
    obtain ⟨h1, h2, h3, h4⟩ := evto_run l u h ha1
    have hv := runL_valid l u h ha1
    have hwa : (runL u l).1.access = 0 := by rw [runL_acc l u h ha1, hac]
    obtain ⟨d, hd⟩ : ∃ d, (if (doneF (runL u l).1 a).2.status = 0 then evF (runL u l).1 a (doneF (runL u l).1 a).1 else []) = d := ⟨_, rfl⟩
    have e1 : evsF u (l ++ [a]) = evS (evsF u l) a := by rw [evsF, List.foldl_append]; rfl
    have eE : (evsF u (l ++ [a])).2.1 = (evsF u l).2.1 ++ d := by
      rw [e1, evS, h1, ← hd]
      by_cases hs : (doneF (runL u l).1 a).2.status = 0 <;> simp [hs]
    have eM : (evsF u (l ++ [a])).2.2 = (evsF u l).2.2 ++ [(((evsF u l).2.1 ++ d).length : Int)] := by
      rw [← eE, e1]; rfl
    have eR : (runL u (l ++ [a])).1 = (doneF (runL u l).1 a).1 := by rw [runL_append]
    by_cases hKE : K = (evsF u (l ++ [a])).2.1.length
    · subst hKE; exact whole_end h hac ha hk
    have hKl : K < ((evsF u l).2.1 ++ d).length := by have := hk.1; rw [eE] at this hKE; omega
    rw [eE] at hk
    have tl : ∀ j, j ≤ l.length → (l ++ [a]).take j = l.take j := fun j hj => List.take_append_of_le_length hj
    have mk : ∀ (i : Nat) (m : Int), (evsF u (l ++ [a])).2.2[i]? = some m → m ≤ (K : Int) → (evsF u l).2.2[i]? = some m := by
      intro i m hi hm
      rw [eM] at hi
      rcases Nat.lt_or_ge i (evsF u l).2.2.length with hl | hl
      · rwa [List.getElem?_append_left hl] at hi
      · rw [List.getElem?_append_right hl] at hi
        have := (List.getElem?_eq_some_iff.1 hi)
        obtain ⟨hx, hy⟩ := this
        simp only [List.length_singleton] at hx
        have hi0 : i - (evsF u l).2.2.length = 0 := by omega
        simp only [hi0, List.getElem_cons_zero] at hy
        omega
    have wl : ∀ b ∈ l, b ∈ l ++ [a] := fun b hb => List.mem_append_left _ hb
    by_cases hlt : K < (evsF u l).2.1.length
    · obtain ⟨j, rs, g1, g2, g3, g4, g5⟩ := ih K part ha1 (partOK_left hlt hk)
      refine ⟨j, rs, by rw [List.length_append]; omega, ?_, by rw [tl j g1]; exact g3, fun i m hi hm => g4 i m (mk i m hi hm) hm, fun hp hw => ?_⟩
      · rw [eE, fileAt_left hlt]; exact g2
      · rw [tl j g1]; exact g5 hp (fun b hb => hw b (wl b hb))
    · have hge : (evsF u l).2.1.length ≤ K := by omega
      have hk2 := partOK_right hge hk
      have hK2 : K - (evsF u l).2.1.length < d.length := by rw [List.length_append] at hKl; omega
      have hF : fileAt (bytesF u) (evsF u (l ++ [a])).2.1 K part = fileAt (bytesF (runL u l).1) d (K - (evsF u l).2.1.length) part := by
        rw [eE, fileAt_right hge, h2.2]
      have hb := act_break (runL u l).1 a hv hwa haa (K - (evsF u l).2.1.length) part (by rw [hd]; exact hk2) (by rw [hd]; exact hK2)
      rw [hd] at hb
      have m1 : ∀ (i : Nat) (m : Int), (evsF u (l ++ [a])).2.2[i]? = some m → m ≤ (K : Int) → i < l.length := fun i m hi hm => by
        have := (List.getElem?_eq_some_iff.1 (mk i m hi hm)).1
        omega
      rcases hb with hb | ⟨hb, hp⟩ | hb
      · refine ⟨l.length, _, by simp, by rw [hF]; exact hb, ?_, m1, fun _ _ => ?_⟩
        · rw [tl _ (Nat.le_refl _), List.take_length]; exact List.prefix_refl _
        · rw [tl _ (Nat.le_refl _), List.take_length]
      · refine ⟨l.length, _, by simp, by rw [hF]; exact hb, ?_, m1, fun hp0 hw => ?_⟩
        · rw [tl _ (Nat.le_refl _), List.take_length]; exact List.take_prefix _ _
        · have := (runL_app l u h ha1 hac hp0 (fun b hb => hw b (wl b hb))).1
          rw [tl _ (Nat.le_refl _), List.take_length, List.take_of_length_le (by omega)]
      · have e3 : (l ++ [a]).take (l.length + 1) = l ++ [a] := List.take_of_length_le (by simp)
        refine ⟨l.length + 1, _, by simp, by rw [hF]; exact hb, ?_, fun i m hi hm => Nat.lt_succ_of_lt (m1 i m hi hm), fun _ _ => ?_⟩
        · rw [e3, eR]; exact List.prefix_refl _
        · rw [e3, eR]
end Go.Proofs.Ythdgdngdfijfhaa
namespace Go.Proofs.Ythdgdngdfijfhaa
open Go.RowKit Go.Proofs
set_option linter.unusedVariables false
set_option linter.unusedSimpArgs false
theorem ev_bare {n : Nat} : ∀ (l : List Ev) (n : Nat), EvV n l → ∀ x ∈ l, x.kind ≠ 0 → x.bytes = []
  | [], n, _, _, hx => by cases hx
  | y :: l, n, h, x, hx => by
    intro hk
    obtain ⟨h1, h2, h3⟩ := sizeF_le h.1
    rcases List.mem_cons.1 hx with rfl | hx
    · obtain ⟨_, g3, _, _⟩ := evE_zero h1
      unfold ev2B at g3
      simp [hk] at g3
      exact g3.1
    · exact ev_bare (n := 0) l _ h.2 x hx hk
theorem fail_at {s t : List UInt8} {E : List Ev} (y : Fy) (h : EvTo s E t) (hs : s.length ≤ 20000) (hl : E.length ≤ 300) :
    partOK E (atK y E) (atP y E) ∧ failF s E (atY y E) = (fileAt s E (atK y E) (atP y E), 0) := by
  obtain ⟨b1, b2, b3, b4⟩ := at_bounds y E
  have hc : (chkF s E).2 = 0 := by
    rw [chkF, if_neg (by omega)]
    exact (chkL_zero E 0 s.length).2 h.1
  have hnk : nextE E (atY y E) = (E[atK y E]?).getD ⟨0, 0, []⟩ := by simp [nextE, atY]
  have hP : atP y E ≤ (nextB E (atY y E)).length ∧ (atK y E < E.length → (nextE E (atY y E)).kind = 0 ∨ atP y E = 0) ∧ (¬ atK y E < E.length → atP y E = 0) := by
    by_cases hlt : atK y E < E.length
    · have e1 : nextE E (atY y E) = E[atK y E] := by rw [hnk, List.getElem?_eq_getElem hlt]; rfl
      have hPv : atP y E = y.p % (E[atK y E].bytes.length + 1) := by rw [atP, if_pos hlt, List.getElem?_eq_getElem hlt]; rfl
      have hm := Nat.mod_lt y.p (show 0 < E[atK y E].bytes.length + 1 by omega)
      rw [nextB, e1]
      by_cases hk : E[atK y E].kind = 0
      · rw [if_pos hk]; exact ⟨by omega, fun _ => .inl hk, fun h => absurd hlt h⟩
      · have := ev_bare (n := 0) E _ h.1 _ (List.getElem_mem hlt) hk
        rw [this] at hm hPv
        rw [if_neg hk]
        simp only [List.length_nil] at hm hPv
        exact ⟨by omega, fun _ => .inr (by omega), fun h => absurd hlt h⟩
    · have hPv : atP y E = 0 := by rw [atP, if_neg hlt]
      exact ⟨by omega, fun h => absurd h hlt, fun _ => hPv⟩
  obtain ⟨p1, p2, p3⟩ := hP
  have c1 : btw (atY y E).reached 0 E.length = true := by rw [btw_true]; simp only [atY]; omega
  have c2 : btw (atY y E).kept (syncL (E.take (atY y E).reached.toNat) 0 0) (atY y E).reached = true := by
    rw [btw_true]; simp only [atY, Int.toNat_natCast]
    have : syncL (E.take (atR y E)) 0 0 = atS y E := rfl
    rw [this]; omega
  have c3 : btw (atY y E).part 0 (nextB E (atY y E)).length = true := by
    rw [btw_true]; simp only [atY] at p1 ⊢; omega
  refine ⟨⟨by omega, ?_⟩, ?_⟩
  · by_cases hlt : atK y E < E.length
    · rw [List.getElem?_eq_getElem hlt]
      have e1 : nextE E (atY y E) = E[atK y E] := by rw [hnk, List.getElem?_eq_getElem hlt]; rfl
      rw [nextB, e1] at p1
      simp only [Option.map_some, Option.getD_some]
      split
      · rename_i hk; rwa [if_pos hk] at p1
      · rename_i hk; rw [if_neg hk] at p1; simpa using p1
    · have := p3 hlt; omega
  · rw [failF, if_neg (fun h => h hc), if_neg (by rw [c1]; simp), if_neg (by rw [c2]; simp), if_neg (by rw [c3]; simp), fileAt]
    by_cases h0 : 0 < atP y E
    · have hlt : atK y E < E.length := by
        rcases Nat.lt_or_ge (atK y E) E.length with h | h
        · exact h
        · have := p3 (by omega); omega
      have hk : (nextE E (atY y E)).kind = 0 := by
        rcases p2 hlt with h | h
        · exact h
        · omega
      rw [if_pos (by simp only [atY]; omega), if_pos h0, nextB, if_pos hk, hnk]
      simp only [atY, Int.toNat_natCast]
    · rw [if_neg (by simp only [atY]; omega), if_neg h0]
      simp only [atY, Int.toNat_natCast]
end Go.Proofs.Ythdgdngdfijfhaa
namespace Go.Proofs.Ythdgdngdfijfhaa
open Go.ChangeShapes Go.WideShapes Go.ChangeAt Go.RowKit Go.Deep Go.Proofs
set_option linter.unusedVariables false
set_option linter.unusedSimpArgs false
def ptY : PT := .seq (.int .u16) (.seq (.int .u16) (.seq (.int .u16) .unit))
theorem u16b {n : Int} (h : (Lit.int .u16 n).wf = true) : ∃ m : Nat, n = (m : Int) ∧ m < 65536 := by
  have h2 : IntKind.u16.min ≤ n ∧ n ≤ IntKind.u16.max := by simpa [Lit.wf] using h
  have h3 : IntKind.u16.min = 0 := by decide
  have h4 : IntKind.u16.max = 65535 := by decide
  exact ⟨n.toNat, by omega, by omega⟩
theorem tvFy (l : List PV) (h : TV ptY l) : ∃ y : Fy, okFy y ∧ PV.agg l = encFy y := by
  obtain ⟨_, _, rfl, ⟨a, rfl, ha⟩, _, _, rfl, ⟨b, rfl, hb⟩, _, _, rfl, ⟨c, rfl, hc⟩, rfl⟩ := h
  obtain ⟨a, rfl, ka⟩ := u16b ha
  obtain ⟨b, rfl, kb⟩ := u16b hb
  obtain ⟨c, rfl, kc⟩ := u16b hc
  exact ⟨⟨a, b, c⟩, ⟨ka, kb, kc⟩, rfl⟩
theorem okT90 : okT Try.prog 9 90 ptY = true := by kernel_rfl
section
variable {H : Type} {enc : TypeId × Value → H} {w : World} {r : Reach} {b0 : Nat} {base : Nat} {sp : Nat → Bool} {held : Bool} {v : Value} {d : DataW H} {ps : List MemPlace}
set_option maxRecDepth 100000 in
theorem arg90 (hv : Value.okWide Try.prog w r b0 90 v) (h : DataW.Trod enc Try.prog w base sp held 90 v d ps) : ∃ y : Fy, okFy y ∧ VR w noO v (encFy y) := by
  obtain ⟨q, hT, hq⟩ := arg_struct (T := ptY) 9 Try.underlying90 okT90 hv h
  obtain ⟨p, hp1, e⟩ := tvFy q hT
  rw [e] at hq
  exact ⟨p, hp1, hq⟩
end
end Go.Proofs.Ythdgdngdfijfhaa
namespace Go.Proofs.Ythdgdngdfijfhaa
open Go.RowKit Go.Proofs
set_option linter.unusedVariables false
set_option linter.unusedSimpArgs false
attribute [local irreducible] PPure CallN Tops TopsDm T
def recF (u : Un) (n : Nat) : List UInt8 := u.recs.getD (n - 1) []
set_option maxHeartbeats 2000000 in
theorem p84 (u : Un) (n : Nat) (h1 : 1 ≤ n) (h2 : n ≤ 1000) : PPure Try.prog 84 [encU u, .int .i64 (n : Int)] (.str (recF u n)) := by
  obtain ⟨m, rfl⟩ : ∃ m, n = m + 1 := ⟨n - 1, by omega⟩
  by_cases h : m < u.recs.length
  · have e0 : recF u (m + 1) = u.recs[m] := by
      rw [recF, Nat.add_sub_cancel, List.getD_eq_getElem?_getD, List.getElem?_eq_getElem h]; rfl
    rw [e0, show PV.str u.recs[m] = encS u.recs[m] from rfl]
    simp only [encU]
    (refine ppure_of_T ok84 (by simp only [List.length_cons, List.length_nil]; decide) ?_; refine t_seq ?_)
    have hNE := True.intro; have hC := True.intro; have hA := True.intro; have hP := True.intro
    (replace hA := True.intro; replace hP := True.intro; repeat' first | ((with_reducible apply gt_box); (refine ce_boxL ?_; intro la ha hn1; replace hNE := And.intro hNE hn1)) | ((with_reducible apply gt_cond); first | refine c_cond ?_ ?_ | refine c_condB ?_ ?_) | ((with_reducible apply gt_any); refine ce_val ?_) | with_reducible first | apply k_seq | apply t_seq | apply t_reg | apply t_nil | apply t_skip | apply t_ret | apply t_exit | apply k_seq_exit | apply k_seq_ret | apply k_blk_exit | refine k_blk_other (by decide) ?_ | apply k_blk_ret | apply k_blk | apply t_block | apply m_nil | (with_reducible intro hc; with_reducible exact Bool.noConfusion hc) | (with_reducible intro hc; replace hC := And.intro hC hc))
    first | refine cpendE rs84 ?_ | refine cpendNE rs84 ?_
    simp only [show ((m + 1 : Nat) : Int) - 1 = (m : Int) by omega, Int.toNat_natCast]
  · have e0 : recF u (m + 1) = [] := by
      rw [recF, Nat.add_sub_cancel, List.getD_eq_getElem?_getD, List.getElem?_eq_none (by omega)]; rfl
    rw [e0]
    simp only [encU]
    (refine ppure_of_T ok84 (by simp only [List.length_cons, List.length_nil]; decide) ?_; refine t_seq ?_)
    have hNE := True.intro; have hC := True.intro; have hA := True.intro; have hP := True.intro
    (replace hA := True.intro; replace hP := True.intro; repeat' first | ((with_reducible apply gt_box); (refine ce_boxL ?_; intro la ha hn1; replace hNE := And.intro hNE hn1)) | ((with_reducible apply gt_cond); first | refine c_cond ?_ ?_ | refine c_condB ?_ ?_) | ((with_reducible apply gt_any); refine ce_val ?_) | with_reducible first | apply k_seq | apply t_seq | apply t_reg | apply t_nil | apply t_skip | apply t_ret | apply t_exit | apply k_seq_exit | apply k_seq_ret | apply k_blk_exit | refine k_blk_other (by decide) ?_ | apply k_blk_ret | apply k_blk | apply t_block | apply m_nil | (with_reducible intro hc; with_reducible exact Bool.noConfusion hc) | (with_reducible intro hc; replace hC := And.intro hC hc))
    all_goals ((first | refine cpendE rs84 ?_ | refine cpendNE rs84 ?_); (exact fin_eq))
end Go.Proofs.Ythdgdngdfijfhaa
namespace Go.Proofs.Ythdgdngdfijfhaa
open Go.RowKit Go.Proofs
set_option linter.unusedVariables false
set_option linter.unusedSimpArgs false
def recS (w : Nat) (s : List UInt8) (i : Nat) : List UInt8 :=
  if (i + 1) * (w + 4) ≤ s.length then (slotOf w (i + 1) ((s.drop (i * (w + 4))).take (w + 4))).1 else []
theorem scanQ_get (w : Nat) : ∀ (f n i : Nat) (s : List UInt8), i < f →
    (scanL w f n s)[i]? = if (i + 1) * (w + 4) ≤ s.length then some (slotOf w (n + i) ((s.drop (i * (w + 4))).take (w + 4))) else none
  | 0, n, i, s, h => by omega
  | f + 1, n, 0, s, h => by
    rw [scanL]
    by_cases hl : s.length < w + 4
    · rw [if_pos hl, if_neg (by omega)]; rfl
    · rw [if_neg hl, if_pos (by omega)]; simp
  | f + 1, n, i + 1, s, h => by
    have e1 : (i + 1 + 1) * (w + 4) = (i + 1) * (w + 4) + (w + 4) := Nat.succ_mul _ _
    have e2 : (i + 1) * (w + 4) = i * (w + 4) + (w + 4) := Nat.succ_mul _ _
    rw [scanL]
    by_cases hl : s.length < w + 4
    · rw [if_pos hl, if_neg (by omega)]; rfl
    · rw [if_neg hl, List.getElem?_cons_succ, scanQ_get w f (n + 1) i _ (by omega), List.length_drop, List.drop_drop]
      rw [show w + 4 + i * (w + 4) = (i + 1) * (w + 4) by omega, show n + 1 + i = n + (i + 1) by omega]
      by_cases h2 : (i + 1) * (w + 4) ≤ s.length - (w + 4)
      · rw [if_pos h2, if_pos (by omega)]
      · rw [if_neg h2, if_neg (by omega)]
theorem trimN_gap (R : List (List UInt8 × Bool)) : ∀ (m i : Nat), trimN R m ≤ i → i < m → (R[i]?).map (·.2) ≠ some true
  | 0, i, _, h => by omega
  | m + 1, i, h1, h2 => by
    rw [trimN] at h1
    split at h1
    · omega
    · rename_i hn
      by_cases h3 : i = m
      · rw [h3]; exact hn
      · exact trimN_gap R m i h1 (by omega)
theorem rec_od (w : Nat) (s : List UInt8) (i : Nat) (hi : i < 60) : (odF w s).recs.getD i [] = recS w s i := by
  have hg := scanQ_get w 60 1 i s hi
  rw [show 1 + i = i + 1 by omega] at hg
  obtain ⟨R, hR⟩ : ∃ R, scanL w 60 1 s = R := ⟨_, rfl⟩
  have hod : (odF w s).recs = (R.take (trimN R R.length)).map (·.1) := by rw [odF, hR]
  rw [hR] at hg
  rw [hod, List.getD_eq_getElem?_getD, List.getElem?_map, List.getElem?_take]
  by_cases h1 : i < trimN R R.length
  · rw [if_pos h1, hg, recS]
    split <;> rfl
  · rw [if_neg h1, recS]
    split
    · rename_i h2
      rw [if_pos h2] at hg
      have hil : i < R.length := (List.getElem?_eq_some_iff.1 hg).1
      have h3 := trimN_gap R R.length i (by omega) hil
      rw [hg] at h3
      unfold slotOf at h3 ⊢
      split
      · rename_i h4; rw [if_pos h4] at h3; exact absurd rfl h3
      · rfl
    · rfl
theorem rec_unit {u : Un} (h : Vu u) (hac : u.access = 1) (i : Nat) (hi : i < 60) : u.recs.getD i [] = recS u.width.toNat (bytesF u) i := by
  rw [← rec_od _ _ i hi, (open_dir u h hac).1]
end Go.Proofs.Ythdgdngdfijfhaa
