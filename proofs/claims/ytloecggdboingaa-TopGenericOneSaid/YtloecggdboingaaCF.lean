/- Chapter 18: common calls. -/
import Derived.Test.YtloecggdboingaaCE
import Derived.KernelRfl
import Derived.Test.YtloecggdboingaaCA
import Derived.Test.YtloecggdboingaaFC
namespace Go.Proofs.Ytloecggdboingaa
open Go.RowKit Go.Proofs
set_option linter.unusedVariables false
set_option linter.unusedSimpArgs false
attribute [local irreducible] PPure

theorem Acc.sub {H H' : Hp} {v : PV} {n : Nat} {xs : List PV} (h : Acc H v n xs) (hs : ∀ l c, H l = some c → H' l = some c) : Acc H' v n xs := by
  rcases h with ⟨h1, h2⟩ | ⟨l, h1, h2⟩
  · exact .inl ⟨h1, h2⟩
  · exact .inr ⟨l, h1, hs l _ h2⟩
def optAt (b : List Dum) (n : Int) : Bool := ((b[n.toNat]?).map (·.opt)).getD false
def featAt (d : Dum) (b : List Dum) (n : Int) : Feat := if (d.elem && decide (0 ≤ n)) = true then ((b[n.toNat]?).map (·.f)).getD d.f else d.f
def neededB (b : List Dum) (k : Nat) (n : Int) : Bool := decide ((k : Int) ≤ n) && !optAt b n
def callOne (b : List Dum) (k i : Nat) (d : Dum) : Option Act :=
  if (k : Int) ≤ (i : Int) then
    if (d.opt && !neededB b k (named b d.name)) = true then none else some ⟨d.name, featAt d b (named b d.name)⟩
  else some ⟨[], featAt d b i⟩
def callOfF (b : List Dum) (k : Nat) : List Dum → Nat → List Act
  | [], _ => []
  | d :: r, i => match callOne b k i d with
    | some x => x :: callOfF b k r (i + 1)
    | none => callOfF b k r (i + 1)
theorem callOfF_len (b : List Dum) (k : Nat) : ∀ (l : List Dum) (i : Nat), (callOfF b k l i).length ≤ l.length
  | [], _ => Nat.le_refl _
  | d :: r, i => by
    have := callOfF_len b k r (i + 1)
    unfold callOfF
    split <;> simp <;> omega
theorem optAt_some {b : List Dum} {n : Int} {y : Dum} (h : b[n.toNat]? = some y) : optAt b n = y.opt := by unfold optAt; rw [h]; rfl
theorem featAt_some {d y : Dum} {b : List Dum} {n : Int} (h : b[n.toNat]? = some y) (h0 : 0 ≤ n) : featAt d b n = if d.elem = true then y.f else d.f := by
  unfold featAt; rw [h, decide_eq_true h0, Bool.and_true]; rfl
theorem featAt_neg {d : Dum} {b : List Dum} {n : Int} (h0 : n < 0) : featAt d b n = d.f := by
  unfold featAt; rw [decide_eq_false (by omega), Bool.and_false]; rfl
theorem all_clA' (l : List Act) : (l.map encA).all (closedB false) = true := by rw [List.all_map]; exact clAs l

set_option maxHeartbeats 4000000 in
theorem p93 (a b : List Dum) (k : Nat) (hA1 : a.length ≤ 1000) (hB1 : b.length ≤ 1000) (hkb : k ≤ b.length) :
    PPure Try.prog 93 [.list .any (a.map encD), .list .any (b.map encD), .int .i64 k] (.list .any ((callOfF b k a 0).map encA)) := by
  (refine ppure_of_T ok93 (by simp only [List.length_cons, List.length_nil]; decide) ?_; refine t_seq ?_)
  (have hNE := True.intro; have hC := True.intro; repeat' first
      | with_reducible refine k_seq ?_
      | with_reducible refine t_seq ?_
      | with_reducible refine t_reg ?_
      | with_reducible refine t_nil ?_
      | with_reducible refine t_block ?_
      | ((with_reducible apply te_val); exact rfl; (intro _ _ _ h; cases h); (focus (simp only [go_sem, hNE]; first | done | exact rfl))))
  refine t_loopE (fun (k0 : Nat) (E0 : Nat → PV) (H0 : Hp) => ∃ (i : Nat) (acc : List Act), i + k0 = a.length ∧ acc ++ callOfF b k (a.drop i) i = callOfF b k a 0 ∧ acc.length ≤ i ∧ Acc H0 (E0 7) 4 (acc.map encA) ∧ E0 15 = .int .i64 i) (a.length) ⟨0, [], (by first | omega | rfl | assumption | (simp only [go_sem]; first | done | rfl | assumption | omega)), ?_, (by first | omega | rfl | assumption | (simp only [go_sem]; first | done | rfl | assumption | omega)), ?_, (by simp only [go_sem]; first | done | rfl)⟩ ?_
  · rfl
  · exact Acc.nil _ _
  rintro k0 E0 H0 hfr0 ⟨i, acc, hk, hr, hal, hacc, h0_15⟩
  have e0_1 := hfr0 1 rfl; have e0_2 := hfr0 2 rfl; have e0_6 := hfr0 6 rfl; have e0_13 := hfr0 13 rfl; have e0_14 := hfr0 14 rfl
  simp only [go_sem] at e0_1 e0_2 e0_6 e0_13 e0_14
  clear hfr0
  by_cases hi : i < a.length
  · obtain ⟨d, hx, hdr⟩ := at_list hi
    have hlt := lt_int hi
    have hw := wrap_next hi hA1
    have hle := Int.le_of_lt hlt
    rw [hdr, callOfF] at hr
    by_cases hik : (k : Int) ≤ (i : Int)
    · rcases named_le b d.name with hn | ⟨hq1, hq2⟩
      · have hkn : ((k : Int) ≤ named b d.name) = False := eq_false (by omega)
        have hq0 : (0 ≤ named b d.name) = False := eq_false (by omega)
        have co : callOne b k i d = if d.opt = true then none else some ⟨d.name, d.f⟩ := by
          simp only [callOne, if_pos hik, neededB, hkn, decide_false, Bool.false_and, Bool.not_false, Bool.and_true, featAt_neg hn]
        (have hA := And.intro e0_1 (And.intro e0_2 (And.intro e0_6 (And.intro e0_13 (And.intro e0_14 (h0_15))))); have hNE := True.intro; have hC := True.intro; repeat' first
            | with_reducible refine k_seq ?_
            | with_reducible refine t_seq ?_
            | with_reducible refine t_reg ?_
            | with_reducible refine t_nil ?_
            | with_reducible refine t_skip ?_
            | with_reducible refine t_exit ?_
            | with_reducible refine k_seq_exit ?_
            | with_reducible refine k_blk_exit ?_
            | with_reducible refine k_blk ?_
            | with_reducible refine t_block ?_
            | ((with_reducible apply te_val); exact rfl; (intro _ _ _ h; cases h); (focus (simp only [go_sem, hNE, hA, hlt, hle, hx, hw, hik, hkn, hq0, encD, encF, encA]; first | done | exact rfl)))
            | ((with_reducible apply te_callS); (focus (simp only [go_sem, hNE, hA, hlt, hle, hx, hw, hik, hkn, hq0, encD, encF, encA]; first | done | exact rfl)); (focus (simp only [go_sem, hNE, hA, hlt, hle, hx, hw, hik, hkn, hq0, encD, encF, encA]; first | done | exact rfl)); (focus (simp only [go_sem, hNE, hA, hlt, hle, hx, hw, hik, hkn, hq0, encD, encF, encA]; first | done | exact rfl)); (first | exact p91 b d.name hB1))
            | ((with_reducible apply te_gval); exact rfl; (focus (simp only [go_sem, hNE, hA, hlt, hle, hx, hw, hik, hkn, hq0, encD, encF, encA]; first | done | exact rfl)); exact rfl; (intro _ _ _ h; cases h); (focus (intro hG; simp only [go_sem, hNE, hA, hlt, hle, hx, hw, hik, hkn, hq0, encD, encF, encA, hG]; first | done | exact rfl)))
            | ((with_reducible apply te_gno); exact rfl; (focus (simp only [go_sem, hNE, hA, hlt, hle, hx, hw, hik, hkn, hq0, encD, encF, encA]; first | done | exact rfl)); exact rfl)
            | ((with_reducible apply te_alloc); (focus (simp only [go_sem, hNE, hA, hlt, hle, hx, hw, hik, hkn, hq0, encD, encF, encA]; first | done | exact rfl)); exact rfl; exact rfl; (intro la ha hn1; have hNE := And.intro hNE hn1))
            | ((with_reducible apply te_store); (focus (simp only [go_sem, hNE, hA, hlt, hle, hx, hw, hik, hkn, hq0, encD, encF, encA]; first | done | exact rfl)); (focus (simp only [go_sem, hNE, hA, hlt, hle, hx, hw, hik, hkn, hq0, encD, encF, encA]; first | done | exact rfl)); (focus (simp only [go_sem, hNE, hA, hlt, hle, hx, hw, hik, hkn, hq0, encD, encF, encA]; first | done | exact rfl)); (focus (simp only [go_sem, hNE, hA, hlt, hle, hx, hw, hik, hkn, hq0, encD, encF, encA]; first | done | exact rfl)); (focus (simp only [go_sem, hNE, hA, hlt, hle, hx, hw, hik, hkn, hq0, encD, encF, encA]; first | done | exact rfl)); (focus (simp only [go_sem, hNE, hA, hlt, hle, hx, hw, hik, hkn, hq0, encD, encF, encA]; first | done | exact rfl)))
            | ((with_reducible apply te_appendG); (with_reducible exact app_23; with_reducible exact c_89); (focus (simp only [go_sem, hNE, hA, hlt, hle, hx, hw, hik, hkn, hq0, encD, encF, encA]; first | done | exact rfl)); (first | exact hacc | exact hacc.upd2 (by assumption) | exact hacc.upd1 (by assumption) | (focus (refine Acc.sub hacc (fun l c hl => ?_); simp only [go_sem, hNE, hA, hlt, hle, hx, hw, hik, hkn, hq0, encD, encF, encA, hl]))); (focus (simp only [go_sem, hNE, hA, hlt, hle, hx, hw, hik, hkn, hq0, encD, encF, encA]; first | done | exact rfl)); exact rfl; (focus (simp only [go_sem, hNE, hA, hlt, hle, hx, hw, hik, hkn, hq0, encD, encF, encA]; done)); (focus (simp only [go_sem, hNE, hA, hlt, hle, hx, hw, hik, hkn, hq0, encD, encF, encA, roomB, List.length_take, List.length_append]; first | done | omega)); (intro u Hn hacc))
            | ((with_reducible apply t_cond); (focus (simp only [go_sem, hNE, hA, hlt, hle, hx, hw, hik, hkn, hq0, encD, encF, encA]; first | done | exact rfl)))
            | (with_reducible intro hc; with_reducible exact Bool.noConfusion hc)
            | (with_reducible intro hc; have hC := And.intro hC hc))
        · refine k_invE (k0 - 1) (by omega) ⟨i + 1, acc, (by omega), ?_, ?_, ?_, (by simp only [go_sem, e0_1, e0_2, e0_6, e0_13, e0_14, h0_15, hw]; first | done | rfl)⟩
          · rw [show callOne b k i d = none by rw [co]; simp only [go_sem, hkn, hC]] at hr
            exact hr
          · omega
          · exact hacc.sub (fun l c hl => by simp only [go_sem, hNE, hl])
        · refine k_invE (k0 - 1) (by omega) ⟨i + 1, acc ++ [(⟨d.name, d.f⟩ : Act)], (by omega), ?_, ?_, ?_, (by simp only [go_sem, e0_1, e0_2, e0_6, e0_13, e0_14, h0_15, hw]; first | done | rfl)⟩
          · rw [show callOne b k i d = some (⟨d.name, d.f⟩ : Act) by rw [co]; simp only [go_sem, hkn, hC]] at hr
            rw [List.append_assoc]; exact hr
          · rw [List.length_append, List.length_singleton]; omega
          · rw [List.map_append]; exact hacc
      · obtain ⟨y, hy⟩ := get_dec hq1 hq2
        have hmx : (if 0 < named b d.name then named b d.name else 0) = named b d.name := by split <;> omega
        have co : callOne b k i d = if (d.opt && !(decide ((k : Int) ≤ named b d.name) && !y.opt)) = true then none else some ⟨d.name, if d.elem = true then y.f else d.f⟩ := by
          simp only [callOne, if_pos hik, neededB, optAt_some hy, featAt_some hy hq1]
        by_cases hkn : (k : Int) ≤ named b d.name
        · (have hA := And.intro e0_1 (And.intro e0_2 (And.intro e0_6 (And.intro e0_13 (And.intro e0_14 (h0_15))))); have hNE := True.intro; have hC := True.intro; repeat' first
              | with_reducible refine k_seq ?_
              | with_reducible refine t_seq ?_
              | with_reducible refine t_reg ?_
              | with_reducible refine t_nil ?_
              | with_reducible refine t_skip ?_
              | with_reducible refine t_exit ?_
              | with_reducible refine k_seq_exit ?_
              | with_reducible refine k_blk_exit ?_
              | with_reducible refine k_blk ?_
              | with_reducible refine t_block ?_
              | ((with_reducible apply te_val); exact rfl; (intro _ _ _ h; cases h); (focus (simp only [go_sem, hNE, hA, hlt, hle, hx, hw, hik, hkn, hq1, hq2, hmx, hy, encD, encF, encA]; first | done | exact rfl)))
              | ((with_reducible apply te_callS); (focus (simp only [go_sem, hNE, hA, hlt, hle, hx, hw, hik, hkn, hq1, hq2, hmx, hy, encD, encF, encA]; first | done | exact rfl)); (focus (simp only [go_sem, hNE, hA, hlt, hle, hx, hw, hik, hkn, hq1, hq2, hmx, hy, encD, encF, encA]; first | done | exact rfl)); (focus (simp only [go_sem, hNE, hA, hlt, hle, hx, hw, hik, hkn, hq1, hq2, hmx, hy, encD, encF, encA]; first | done | exact rfl)); (first | exact p91 b d.name hB1))
              | ((with_reducible apply te_gval); exact rfl; (focus (simp only [go_sem, hNE, hA, hlt, hle, hx, hw, hik, hkn, hq1, hq2, hmx, hy, encD, encF, encA]; first | done | exact rfl)); exact rfl; (intro _ _ _ h; cases h); (focus (intro hG; simp only [go_sem, hNE, hA, hlt, hle, hx, hw, hik, hkn, hq1, hq2, hmx, hy, encD, encF, encA, hG]; first | done | exact rfl)))
              | ((with_reducible apply te_alloc); (focus (simp only [go_sem, hNE, hA, hlt, hle, hx, hw, hik, hkn, hq1, hq2, hmx, hy, encD, encF, encA]; first | done | exact rfl)); exact rfl; exact rfl; (intro la ha hn1; have hNE := And.intro hNE hn1))
              | ((with_reducible apply te_store); (focus (simp only [go_sem, hNE, hA, hlt, hle, hx, hw, hik, hkn, hq1, hq2, hmx, hy, encD, encF, encA]; first | done | exact rfl)); (focus (simp only [go_sem, hNE, hA, hlt, hle, hx, hw, hik, hkn, hq1, hq2, hmx, hy, encD, encF, encA]; first | done | exact rfl)); (focus (simp only [go_sem, hNE, hA, hlt, hle, hx, hw, hik, hkn, hq1, hq2, hmx, hy, encD, encF, encA]; first | done | exact rfl)); (focus (simp only [go_sem, hNE, hA, hlt, hle, hx, hw, hik, hkn, hq1, hq2, hmx, hy, encD, encF, encA]; first | done | exact rfl)); (focus (simp only [go_sem, hNE, hA, hlt, hle, hx, hw, hik, hkn, hq1, hq2, hmx, hy, encD, encF, encA]; first | done | exact rfl)); (focus (simp only [go_sem, hNE, hA, hlt, hle, hx, hw, hik, hkn, hq1, hq2, hmx, hy, encD, encF, encA]; first | done | exact rfl)))
              | ((with_reducible apply te_appendG); (with_reducible exact app_23; with_reducible exact c_89); (focus (simp only [go_sem, hNE, hA, hlt, hle, hx, hw, hik, hkn, hq1, hq2, hmx, hy, encD, encF, encA]; first | done | exact rfl)); (first | exact hacc | exact hacc.upd2 (by assumption) | exact hacc.upd1 (by assumption) | (focus (refine Acc.sub hacc (fun l c hl => ?_); simp only [go_sem, hNE, hA, hlt, hle, hx, hw, hik, hkn, hq1, hq2, hmx, hy, encD, encF, encA, hl]))); (focus (simp only [go_sem, hNE, hA, hlt, hle, hx, hw, hik, hkn, hq1, hq2, hmx, hy, encD, encF, encA]; first | done | exact rfl)); exact rfl; (focus (simp only [go_sem, hNE, hA, hlt, hle, hx, hw, hik, hkn, hq1, hq2, hmx, hy, encD, encF, encA]; done)); (focus (simp only [go_sem, hNE, hA, hlt, hle, hx, hw, hik, hkn, hq1, hq2, hmx, hy, encD, encF, encA, roomB, List.length_take, List.length_append]; first | done | omega)); (intro u Hn hacc))
              | ((with_reducible apply t_cond); (focus (simp only [go_sem, hNE, hA, hlt, hle, hx, hw, hik, hkn, hq1, hq2, hmx, hy, encD, encF, encA]; first | done | exact rfl)))
              | (with_reducible intro hc; with_reducible exact Bool.noConfusion hc)
              | (with_reducible intro hc; have hC := And.intro hC hc))
          · refine k_invE (k0 - 1) (by omega) ⟨i + 1, acc, (by omega), ?_, ?_, ?_, (by simp only [go_sem, e0_1, e0_2, e0_6, e0_13, e0_14, h0_15, hw]; first | done | rfl)⟩
            · rw [show callOne b k i d = none by rw [co]; simp only [go_sem, hkn, hC]] at hr
              exact hr
            · omega
            · exact hacc.sub (fun l c hl => by simp only [go_sem, hNE, hl])
          · refine k_invE (k0 - 1) (by omega) ⟨i + 1, acc ++ [(⟨d.name, y.f⟩ : Act)], (by omega), ?_, ?_, ?_, (by simp only [go_sem, e0_1, e0_2, e0_6, e0_13, e0_14, h0_15, hw]; first | done | rfl)⟩
            · rw [show callOne b k i d = some (⟨d.name, y.f⟩ : Act) by rw [co]; simp only [go_sem, hkn, hC]] at hr
              rw [List.append_assoc]; exact hr
            · rw [List.length_append, List.length_singleton]; omega
            · rw [List.map_append]; exact hacc
          · refine k_invE (k0 - 1) (by omega) ⟨i + 1, acc ++ [(⟨d.name, d.f⟩ : Act)], (by omega), ?_, ?_, ?_, (by simp only [go_sem, e0_1, e0_2, e0_6, e0_13, e0_14, h0_15, hw]; first | done | rfl)⟩
            · rw [show callOne b k i d = some (⟨d.name, d.f⟩ : Act) by rw [co]; simp only [go_sem, hkn, hC]] at hr
              rw [List.append_assoc]; exact hr
            · rw [List.length_append, List.length_singleton]; omega
            · rw [List.map_append]; exact hacc
        · (have hA := And.intro e0_1 (And.intro e0_2 (And.intro e0_6 (And.intro e0_13 (And.intro e0_14 (h0_15))))); have hNE := True.intro; have hC := True.intro; repeat' first
              | with_reducible refine k_seq ?_
              | with_reducible refine t_seq ?_
              | with_reducible refine t_reg ?_
              | with_reducible refine t_nil ?_
              | with_reducible refine t_skip ?_
              | with_reducible refine t_exit ?_
              | with_reducible refine k_seq_exit ?_
              | with_reducible refine k_blk_exit ?_
              | with_reducible refine k_blk ?_
              | with_reducible refine t_block ?_
              | ((with_reducible apply te_val); exact rfl; (intro _ _ _ h; cases h); (focus (simp only [go_sem, hNE, hA, hlt, hle, hx, hw, hik, hkn, hq1, hq2, hmx, hy, encD, encF, encA]; first | done | exact rfl)))
              | ((with_reducible apply te_callS); (focus (simp only [go_sem, hNE, hA, hlt, hle, hx, hw, hik, hkn, hq1, hq2, hmx, hy, encD, encF, encA]; first | done | exact rfl)); (focus (simp only [go_sem, hNE, hA, hlt, hle, hx, hw, hik, hkn, hq1, hq2, hmx, hy, encD, encF, encA]; first | done | exact rfl)); (focus (simp only [go_sem, hNE, hA, hlt, hle, hx, hw, hik, hkn, hq1, hq2, hmx, hy, encD, encF, encA]; first | done | exact rfl)); (first | exact p91 b d.name hB1))
              | ((with_reducible apply te_gval); exact rfl; (focus (simp only [go_sem, hNE, hA, hlt, hle, hx, hw, hik, hkn, hq1, hq2, hmx, hy, encD, encF, encA]; first | done | exact rfl)); exact rfl; (intro _ _ _ h; cases h); (focus (intro hG; simp only [go_sem, hNE, hA, hlt, hle, hx, hw, hik, hkn, hq1, hq2, hmx, hy, encD, encF, encA, hG]; first | done | exact rfl)))
              | ((with_reducible apply te_gno); exact rfl; (focus (simp only [go_sem, hNE, hA, hlt, hle, hx, hw, hik, hkn, hq1, hq2, hmx, hy, encD, encF, encA]; first | done | exact rfl)); exact rfl)
              | ((with_reducible apply te_alloc); (focus (simp only [go_sem, hNE, hA, hlt, hle, hx, hw, hik, hkn, hq1, hq2, hmx, hy, encD, encF, encA]; first | done | exact rfl)); exact rfl; exact rfl; (intro la ha hn1; have hNE := And.intro hNE hn1))
              | ((with_reducible apply te_store); (focus (simp only [go_sem, hNE, hA, hlt, hle, hx, hw, hik, hkn, hq1, hq2, hmx, hy, encD, encF, encA]; first | done | exact rfl)); (focus (simp only [go_sem, hNE, hA, hlt, hle, hx, hw, hik, hkn, hq1, hq2, hmx, hy, encD, encF, encA]; first | done | exact rfl)); (focus (simp only [go_sem, hNE, hA, hlt, hle, hx, hw, hik, hkn, hq1, hq2, hmx, hy, encD, encF, encA]; first | done | exact rfl)); (focus (simp only [go_sem, hNE, hA, hlt, hle, hx, hw, hik, hkn, hq1, hq2, hmx, hy, encD, encF, encA]; first | done | exact rfl)); (focus (simp only [go_sem, hNE, hA, hlt, hle, hx, hw, hik, hkn, hq1, hq2, hmx, hy, encD, encF, encA]; first | done | exact rfl)); (focus (simp only [go_sem, hNE, hA, hlt, hle, hx, hw, hik, hkn, hq1, hq2, hmx, hy, encD, encF, encA]; first | done | exact rfl)))
              | ((with_reducible apply te_appendG); (with_reducible exact app_23; with_reducible exact c_89); (focus (simp only [go_sem, hNE, hA, hlt, hle, hx, hw, hik, hkn, hq1, hq2, hmx, hy, encD, encF, encA]; first | done | exact rfl)); (first | exact hacc | exact hacc.upd2 (by assumption) | exact hacc.upd1 (by assumption) | (focus (refine Acc.sub hacc (fun l c hl => ?_); simp only [go_sem, hNE, hA, hlt, hle, hx, hw, hik, hkn, hq1, hq2, hmx, hy, encD, encF, encA, hl]))); (focus (simp only [go_sem, hNE, hA, hlt, hle, hx, hw, hik, hkn, hq1, hq2, hmx, hy, encD, encF, encA]; first | done | exact rfl)); exact rfl; (focus (simp only [go_sem, hNE, hA, hlt, hle, hx, hw, hik, hkn, hq1, hq2, hmx, hy, encD, encF, encA]; done)); (focus (simp only [go_sem, hNE, hA, hlt, hle, hx, hw, hik, hkn, hq1, hq2, hmx, hy, encD, encF, encA, roomB, List.length_take, List.length_append]; first | done | omega)); (intro u Hn hacc))
              | ((with_reducible apply t_cond); (focus (simp only [go_sem, hNE, hA, hlt, hle, hx, hw, hik, hkn, hq1, hq2, hmx, hy, encD, encF, encA]; first | done | exact rfl)))
              | (with_reducible intro hc; with_reducible exact Bool.noConfusion hc)
              | (with_reducible intro hc; have hC := And.intro hC hc))
          · refine k_invE (k0 - 1) (by omega) ⟨i + 1, acc, (by omega), ?_, ?_, ?_, (by simp only [go_sem, e0_1, e0_2, e0_6, e0_13, e0_14, h0_15, hw]; first | done | rfl)⟩
            · rw [show callOne b k i d = none by rw [co]; simp only [go_sem, hkn, hC]] at hr
              exact hr
            · omega
            · exact hacc.sub (fun l c hl => by simp only [go_sem, hNE, hl])
          · refine k_invE (k0 - 1) (by omega) ⟨i + 1, acc ++ [(⟨d.name, y.f⟩ : Act)], (by omega), ?_, ?_, ?_, (by simp only [go_sem, e0_1, e0_2, e0_6, e0_13, e0_14, h0_15, hw]; first | done | rfl)⟩
            · rw [show callOne b k i d = some (⟨d.name, y.f⟩ : Act) by rw [co]; simp only [go_sem, hkn, hC]] at hr
              rw [List.append_assoc]; exact hr
            · rw [List.length_append, List.length_singleton]; omega
            · rw [List.map_append]; exact hacc
          · refine k_invE (k0 - 1) (by omega) ⟨i + 1, acc ++ [(⟨d.name, d.f⟩ : Act)], (by omega), ?_, ?_, ?_, (by simp only [go_sem, e0_1, e0_2, e0_6, e0_13, e0_14, h0_15, hw]; first | done | rfl)⟩
            · rw [show callOne b k i d = some (⟨d.name, d.f⟩ : Act) by rw [co]; simp only [go_sem, hkn, hC]] at hr
              rw [List.append_assoc]; exact hr
            · rw [List.length_append, List.length_singleton]; omega
            · rw [List.map_append]; exact hacc
    · obtain ⟨y, hy⟩ : ∃ y, b[i]? = some y := ⟨b[i]'(by omega), List.getElem?_eq_getElem (by omega)⟩
      have co : callOne b k i d = some ⟨[], if d.elem = true then y.f else d.f⟩ := by
        simp only [callOne, if_neg hik]
        rw [featAt_some (by simpa using hy) (by omega)]
      have hkn := hik
      have hib : ((i : Int) < (b.length : Int)) := by omega
      (have hA := And.intro e0_1 (And.intro e0_2 (And.intro e0_6 (And.intro e0_13 (And.intro e0_14 (h0_15))))); have hNE := True.intro; have hC := True.intro; repeat' first
          | with_reducible refine k_seq ?_
          | with_reducible refine t_seq ?_
          | with_reducible refine t_reg ?_
          | with_reducible refine t_nil ?_
          | with_reducible refine t_skip ?_
          | with_reducible refine k_blk ?_
          | with_reducible refine t_block ?_
          | ((with_reducible apply te_val); exact rfl; (intro _ _ _ h; cases h); (focus (simp only [go_sem, hNE, hA, hlt, hle, hx, hw, hik, hib, hy, encD, encF, encA]; first | done | exact rfl)))
          | ((with_reducible apply te_gval); exact rfl; (focus (simp only [go_sem, hNE, hA, hlt, hle, hx, hw, hik, hib, hy, encD, encF, encA]; first | done | exact rfl)); exact rfl; (intro _ _ _ h; cases h); (focus (intro hG; simp only [go_sem, hNE, hA, hlt, hle, hx, hw, hik, hib, hy, encD, encF, encA, hG]; first | done | exact rfl)))
          | ((with_reducible apply te_alloc); (focus (simp only [go_sem, hNE, hA, hlt, hle, hx, hw, hik, hib, hy, encD, encF, encA]; first | done | exact rfl)); exact rfl; exact rfl; (intro la ha hn1; have hNE := And.intro hNE hn1))
          | ((with_reducible apply te_store); (focus (simp only [go_sem, hNE, hA, hlt, hle, hx, hw, hik, hib, hy, encD, encF, encA]; first | done | exact rfl)); (focus (simp only [go_sem, hNE, hA, hlt, hle, hx, hw, hik, hib, hy, encD, encF, encA]; first | done | exact rfl)); (focus (simp only [go_sem, hNE, hA, hlt, hle, hx, hw, hik, hib, hy, encD, encF, encA]; first | done | exact rfl)); (focus (simp only [go_sem, hNE, hA, hlt, hle, hx, hw, hik, hib, hy, encD, encF, encA]; first | done | exact rfl)); (focus (simp only [go_sem, hNE, hA, hlt, hle, hx, hw, hik, hib, hy, encD, encF, encA]; first | done | exact rfl)); (focus (simp only [go_sem, hNE, hA, hlt, hle, hx, hw, hik, hib, hy, encD, encF, encA]; first | done | exact rfl)))
          | ((with_reducible apply te_appendG); (with_reducible exact app_23; with_reducible exact c_89); (focus (simp only [go_sem, hNE, hA, hlt, hle, hx, hw, hik, hib, hy, encD, encF, encA]; first | done | exact rfl)); (first | exact hacc | exact hacc.upd2 (by assumption) | exact hacc.upd1 (by assumption) | (focus (refine Acc.sub hacc (fun l c hl => ?_); simp only [go_sem, hNE, hA, hlt, hle, hx, hw, hik, hib, hy, encD, encF, encA, hl]))); (focus (simp only [go_sem, hNE, hA, hlt, hle, hx, hw, hik, hib, hy, encD, encF, encA]; first | done | exact rfl)); exact rfl; (focus (simp only [go_sem, hNE, hA, hlt, hle, hx, hw, hik, hib, hy, encD, encF, encA]; done)); (focus (simp only [go_sem, hNE, hA, hlt, hle, hx, hw, hik, hib, hy, encD, encF, encA, roomB, List.length_take, List.length_append]; first | done | omega)); (intro u Hn hacc))
          | ((with_reducible apply t_cond); (focus (simp only [go_sem, hNE, hA, hlt, hle, hx, hw, hik, hib, hy, encD, encF, encA]; first | done | exact rfl)))
          | (with_reducible intro hc; with_reducible exact Bool.noConfusion hc)
          | (with_reducible intro hc; have hC := And.intro hC hc))
      · refine k_invE (k0 - 1) (by omega) ⟨i + 1, acc ++ [(⟨[], y.f⟩ : Act)], (by omega), ?_, ?_, ?_, (by simp only [go_sem, e0_1, e0_2, e0_6, e0_13, e0_14, h0_15, hw]; first | done | rfl)⟩
        · rw [show callOne b k i d = some (⟨[], y.f⟩ : Act) by rw [co]; simp only [go_sem, hkn, hC]] at hr
          rw [List.append_assoc]; exact hr
        · rw [List.length_append, List.length_singleton]; omega
        · rw [List.map_append]; exact hacc
      · refine k_invE (k0 - 1) (by omega) ⟨i + 1, acc ++ [(⟨[], d.f⟩ : Act)], (by omega), ?_, ?_, ?_, (by simp only [go_sem, e0_1, e0_2, e0_6, e0_13, e0_14, h0_15, hw]; first | done | rfl)⟩
        · rw [show callOne b k i d = some (⟨[], d.f⟩ : Act) by rw [co]; simp only [go_sem, hkn, hC]] at hr
          rw [List.append_assoc]; exact hr
        · rw [List.length_append, List.length_singleton]; omega
        · rw [List.map_append]; exact hacc
  · have hlt := nlt_int hi
    rw [at_end hi, callOfF, List.append_nil] at hr
    (have hA := And.intro e0_1 (And.intro e0_2 (And.intro e0_6 (And.intro e0_13 (And.intro e0_14 (h0_15))))); have hNE := True.intro; have hC := True.intro; repeat' first
        | with_reducible refine k_seq ?_
        | with_reducible refine t_seq ?_
        | with_reducible refine t_reg ?_
        | with_reducible refine t_nil ?_
        | with_reducible refine t_ret ?_
        | with_reducible refine t_exit ?_
        | with_reducible refine k_seq_exit ?_
        | with_reducible refine k_blk_exit ?_
        | with_reducible refine k_invE_exit ?_
        | ((with_reducible apply te_val); exact rfl; (intro _ _ _ h; cases h); (focus (simp only [go_sem, hNE, hA, hlt]; first | done | exact rfl)))
        | ((with_reducible apply t_cond); (focus (simp only [go_sem, hNE, hA, hlt]; first | done | exact rfl)))
        | (with_reducible intro hc; with_reducible exact Bool.noConfusion hc)
        | (with_reducible intro hc; have hC := And.intro hC hc))
    apply pend rs93; (focus (simp only [go_sem]; rfl))
    rw [← hr]
    exact hacc.norm (all_clA' _)
end Go.Proofs.Ytloecggdboingaa
namespace Go.Proofs.Ytloecggdboingaa
open Go.RowKit Go.Proofs
set_option linter.unusedVariables false
set_option linter.unusedSimpArgs false
attribute [local irreducible] PPure

theorem nmA6 (H : Hp) (xs : List Act) : (xs.map encA).mapM (norm false H 6) = some (xs.map encA) := nm_of clAs H 5 xs
def cm (a b : Prc) (k : Nat) : Option (List Act) :=
  if ((matchF a (callOfF b.ds k a.ds 0)).isSome && (matchF b (callOfF b.ds k a.ds 0)).isSome) = true then some (callOfF b.ds k a.ds 0) else none
def commonF (a b : Prc) : Option (List Act) := srch (cm a b) (min a.ds.length b.ds.length + 1) 0
theorem min_ite {a b : Nat} : (if (b : Int) < (a : Int) then (b : Int) else (a : Int)) = ((min a b : Nat) : Int) := by split <;> omega
set_option maxHeartbeats 2000000 in
theorem p60 (a b : Prc) (hA1 : a.ds.length ≤ 900) (hB1 : b.ds.length ≤ 900) : PPure Try.prog 60 [encP a, encP b] (.tup [.list .any (((commonF a b).getD []).map encA), .bool (commonF a b).isSome]) := by
  simp only [encP]
  have hW : IntKind.i64.wrap (((min a.ds.length b.ds.length : Nat) : Int) + 1) = ((min a.ds.length b.ds.length + 1 : Nat) : Int) := by rw [IntKind.wrap_i64]; omega
  obtain ⟨N, hN⟩ : ∃ n, min a.ds.length b.ds.length + 1 = n := ⟨_, rfl⟩
  rw [hN] at hW
  have hNb : N ≤ 1000 := by omega
  have hcf : commonF a b = srch (cm a b) N 0 := by rw [commonF, hN]
  (refine ppure_of_T ok60 (by simp only [List.length_cons, List.length_nil]; decide) ?_; refine t_seq ?_)
  (have hNE := True.intro; have hC := True.intro; repeat' first
      | with_reducible refine k_seq ?_
      | with_reducible refine t_seq ?_
      | with_reducible refine t_reg ?_
      | with_reducible refine t_nil ?_
      | with_reducible refine t_block ?_
      | ((with_reducible apply te_val); exact rfl; (intro _ _ _ h; cases h); (focus (simp only [go_sem, hNE, encP, min_ite, hW]; first | done | exact rfl)))
      | ((with_reducible apply te_box); (focus (simp only [go_sem, hNE, encP, min_ite, hW]; first | done | exact rfl)); exact rfl; (focus (simp only [go_sem, hNE, encP, min_ite, hW]; first | done | exact rfl))))
  refine t_loopE (fun (k0 : Nat) (E0 : Nat → PV) (H0 : Hp) => ∃ (k : Nat), k + k0 = N ∧ srch (cm a b) k0 k = srch (cm a b) N 0 ∧ E0 20 = .int .i64 k) (N) ⟨0, (by first | omega | rfl | assumption | (simp only [go_sem, encP, min_ite, hW]; first | done | rfl | assumption | omega)), (by first | omega | rfl | assumption | (simp only [go_sem, encP, min_ite, hW]; first | done | rfl | assumption | omega)), (by simp only [go_sem, encP, min_ite, hW]; first | done | rfl)⟩ ?_
  rintro k0 E0 H0 hfr0 ⟨k, hk, hr, h0_20⟩
  have e0_2 := hfr0 2 rfl; have e0_3 := hfr0 3 rfl; have e0_19 := hfr0 19 rfl
  simp only [go_sem, encP, min_ite, hW] at e0_2 e0_3 e0_19
  clear hfr0
  by_cases hi : k < N
  · have hlt := lt_int hi
    have hw0 := wrap_next hi hNb
    obtain ⟨k0', hk0⟩ : ∃ k', k0 = k' + 1 := ⟨k0 - 1, by omega⟩
    have hk1 : k0 - 1 = k0' := by omega
    rw [hk0, srch] at hr
    have hlc : (callOfF b.ds k a.ds 0).length ≤ 1000 := Nat.le_trans (callOfF_len _ _ _ _) (by omega)
    have q93 := p93 a.ds b.ds k (by omega) (by omega) (by omega)
    have q1 := p56' a (callOfF b.ds k a.ds 0) (by omega) hlc
    have q2 := p56' b (callOfF b.ds k a.ds 0) (by omega) hlc
    simp only [encP] at q1 q2
    (have hA := And.intro e0_2 (And.intro e0_3 (And.intro e0_19 (h0_20))); have hNE := True.intro; have hC := True.intro; repeat' first
        | with_reducible refine k_seq ?_
        | with_reducible refine t_seq ?_
        | with_reducible refine t_reg ?_
        | with_reducible refine t_nil ?_
        | with_reducible refine t_skip ?_
        | with_reducible refine t_ret ?_
        | with_reducible refine k_seq_ret ?_
        | with_reducible refine k_blk_ret ?_
        | with_reducible refine k_blk ?_
        | with_reducible refine k_invE_ret ?_
        | with_reducible refine t_block ?_
        | ((with_reducible apply te_val); exact rfl; (intro _ _ _ h; cases h); (focus (simp only [go_sem, hNE, hA, hlt, encP]; first | done | exact rfl)))
        | ((with_reducible apply te_callS); (focus (simp only [go_sem, hNE, hA, hlt, encP]; first | done | exact rfl)); (focus (simp only [go_sem, hNE, hA, hlt, encP]; first | done | exact rfl)); (focus (simp only [go_sem, hNE, hA, hlt, encP]; first | done | exact rfl)); (first | exact q93 | exact q1 | exact q2))
        | ((with_reducible apply te_gval); exact rfl; (focus (simp only [go_sem, hNE, hA, hlt, encP]; first | done | exact rfl)); exact rfl; (intro _ _ _ h; cases h); (focus (intro hG; simp only [go_sem, hNE, hA, hlt, encP, hG]; first | done | exact rfl)))
        | ((with_reducible apply t_cond); (focus (simp only [go_sem, hNE, hA, hlt, encP]; first | done | exact rfl)))
        | (with_reducible intro hc; with_reducible exact Bool.noConfusion hc)
        | (with_reducible intro hc; have hC := And.intro hC hc))
    · have e : cm a b k = some (callOfF b.ds k a.ds 0) := by simp only [cm]; rw [if_pos (by simpa using hC.2)]
      rw [e] at hr
      simp only at hr
      rw [hcf, ← hr]
      (first | apply pend rs60 | apply pendN rs60); (focus (simp only [go_sem, e0_2, e0_3, e0_19, h0_20, clAs, nmA, encP]; first | done | exact rfl)); (focus (simp only [go_sem, e0_2, e0_3, e0_19, h0_20, clAs, nmA, encP]; first | done | exact rfl))
    · have e : cm a b k = none := by simp only [cm]; rw [if_neg (by simpa using hC.2)]
      rw [e] at hr
      simp only at hr
      refine k_invE (k0 - 1) (by omega) ⟨k + 1, (by omega), ?_, (by simp only [go_sem, e0_2, e0_3, e0_19, h0_20, hw0]; first | done | rfl)⟩
      rw [hk1]; exact hr
  · have hlt := nlt_int hi
    have hz : k0 = 0 := by omega
    rw [hz, srch] at hr
    (have hA := And.intro e0_2 (And.intro e0_3 (And.intro e0_19 (h0_20))); have hNE := True.intro; have hC := True.intro; repeat' first
        | with_reducible refine k_seq ?_
        | with_reducible refine t_seq ?_
        | with_reducible refine t_reg ?_
        | with_reducible refine t_nil ?_
        | with_reducible refine t_ret ?_
        | with_reducible refine t_exit ?_
        | with_reducible refine k_seq_exit ?_
        | with_reducible refine k_blk_exit ?_
        | with_reducible refine k_invE_exit ?_
        | ((with_reducible apply te_val); exact rfl; (intro _ _ _ h; cases h); (focus (simp only [go_sem, hNE, hA, hlt, encP]; first | done | exact rfl)))
        | ((with_reducible apply t_cond); (focus (simp only [go_sem, hNE, hA, hlt, encP]; first | done | exact rfl)))
        | (with_reducible intro hc; with_reducible exact Bool.noConfusion hc)
        | (with_reducible intro hc; have hC := And.intro hC hc))
    rw [hcf, ← hr]
    (first | apply pend rs60 | apply pendN rs60); (focus (simp only [go_sem, e0_2, e0_3, e0_19, h0_20]; first | done | exact rfl)); (focus (simp only [go_sem, e0_2, e0_3, e0_19, h0_20]; first | done | exact rfl))
def commonCall (a b : Prc) : List Act × Int := if bothErr a b = 0 then ((commonF a b).getD [], broken [((commonF a b).isSome, 12)]) else ([], bothErr a b)
theorem p24 (a b : Prc) (hA1 : a.ds.length ≤ 900) (hB1 : b.ds.length ≤ 900) : PPure Try.prog 24 [encP a, encP b] (.tup [.list .any ((commonCall a b).1.map encA), .int .i64 (commonCall a b).2]) := by
  have q := p60 a b hA1 hB1
  simp only [encP] at q ⊢
  (refine ppure_of_T ok24 (by simp only [List.length_cons, List.length_nil]; decide) ?_; refine t_seq ?_)
  (have hNE := True.intro; have hC := True.intro; repeat' first
      | with_reducible refine k_seq ?_
      | with_reducible refine t_seq ?_
      | with_reducible refine t_reg ?_
      | with_reducible refine t_nil ?_
      | with_reducible refine t_skip ?_
      | with_reducible refine t_ret ?_
      | with_reducible refine k_seq_ret ?_
      | ((with_reducible apply te_val); exact rfl; (intro _ _ _ h; cases h); (focus (simp only [go_sem, hNE, encP]; first | done | exact rfl)))
      | ((with_reducible apply te_callS); (focus (simp only [go_sem, hNE, encP]; first | done | exact rfl)); (focus (simp only [go_sem, hNE, encP]; first | done | exact rfl)); (focus (simp only [go_sem, hNE, encP]; first | done | exact rfl)); (first | exact p59 a b (by omega) (by omega) | exact q | exact p57_1 _ _))
      | ((with_reducible apply te_box); (focus (simp only [go_sem, hNE, encP]; first | done | exact rfl)); exact rfl; (focus (simp only [go_sem, hNE, encP]; first | done | exact rfl)))
      | ((with_reducible apply t_cond); (focus (simp only [go_sem, hNE, encP]; first | done | exact rfl)))
      | (with_reducible intro hc; have hC := And.intro hC hc))
  · have e : ¬ bothErr a b = 0 := by simpa using hC
    (first | apply pend rs24 | apply pendN rs24); (focus (simp only [go_sem, commonCall, e]; first | done | exact rfl)); (focus (simp only [go_sem, commonCall, e]; first | done | exact rfl))
  · have e : bothErr a b = 0 := by simpa using hC
    (first | apply pend rs24 | apply pendN rs24); (focus (simp only [go_sem, commonCall, e, clAs, nmA]; first | done | exact rfl)); (focus (simp only [go_sem, commonCall, e, clAs, nmA]; first | done | exact rfl))
set_option maxHeartbeats 4000000 in
theorem p27 (a b : Prc) (hA1 : a.ds.length ≤ 900) (hB1 : b.ds.length ≤ 900) : PPure Try.prog 27 [encP a, encP b] (.tup [.list .any (((commonF a b).getD []).map encA), .bool (commonF a b).isSome]) := by
  simp only [encP]
  obtain ⟨N, hN⟩ : ∃ n, min a.ds.length b.ds.length + 1 = n := ⟨_, rfl⟩
  have hNb : N ≤ 1000 := by omega
  have hcf : commonF a b = srch (cm a b) N 0 := by rw [commonF, hN]
  (refine ppure_of_T ok27 (by simp only [List.length_cons, List.length_nil]; decide) ?_; refine t_seq ?_)
  (have hNE := True.intro; have hC := True.intro; repeat' first
      | with_reducible refine k_seq ?_
      | with_reducible refine t_seq ?_
      | with_reducible refine t_reg ?_
      | with_reducible refine t_nil ?_
      | with_reducible refine t_block ?_
      | ((with_reducible apply te_val); exact rfl; (intro _ _ _ h; cases h); (focus (simp only [go_sem, hNE, encP, min_ite]; first | done | exact rfl)))
      | ((with_reducible apply te_box); (focus (simp only [go_sem, hNE, encP, min_ite]; first | done | exact rfl)); exact rfl; (focus (simp only [go_sem, hNE, encP, min_ite]; first | done | exact rfl))))
  refine t_loopE (fun (k0 : Nat) (E0 : Nat → PV) (H0 : Hp) => ∃ (k : Nat), k + k0 = N ∧ srch (cm a b) k0 k = srch (cm a b) N 0 ∧ E0 6 = .int .i64 k) (N) ⟨0, (by first | omega | rfl | assumption | (simp only [go_sem, encP, min_ite]; first | done | rfl | assumption | omega)), (by first | omega | rfl | assumption | (simp only [go_sem, encP, min_ite]; first | done | rfl | assumption | omega)), (by simp only [go_sem, encP, min_ite]; first | done | rfl)⟩ ?_
  rintro k0 E0 H0 hfr0 ⟨k, hk, hr, h0_6⟩
  have e0_2 := hfr0 2 rfl; have e0_3 := hfr0 3 rfl
  simp only [go_sem, encP, min_ite] at e0_2 e0_3
  clear hfr0
  by_cases hi : k < N
  · have hlt : (k : Int) ≤ ((min a.ds.length b.ds.length : Nat) : Int) := by omega
    have hw0 := wrap_next hi hNb
    obtain ⟨k0', hk0⟩ : ∃ k', k0 = k' + 1 := ⟨k0 - 1, by omega⟩
    have hk1 : k0 - 1 = k0' := by omega
    rw [hk0, srch] at hr
    have hlc : (callOfF b.ds k a.ds 0).length ≤ 1000 := Nat.le_trans (callOfF_len _ _ _ _) (by omega)
    have q1 := p38' a (callOfF b.ds k a.ds 0) (by omega) hlc
    have q2 := p38' b (callOfF b.ds k a.ds 0) (by omega) hlc
    simp only [encP] at q1 q2
    (have hA := And.intro e0_2 (And.intro e0_3 (h0_6)); have hNE := True.intro; have hC := True.intro; repeat' first
        | with_reducible refine k_seq ?_
        | with_reducible refine t_seq ?_
        | with_reducible refine t_reg ?_
        | with_reducible refine t_nil ?_
        | with_reducible refine t_skip ?_
        | with_reducible refine t_block ?_
        | ((with_reducible apply te_val); exact rfl; (intro _ _ _ h; cases h); (focus (simp only [go_sem, hNE, hA, hlt, encP, min_ite]; first | done | exact rfl)))
        | ((with_reducible apply t_cond); (focus (simp only [go_sem, hNE, hA, hlt, encP, min_ite]; first | done | exact rfl)))
        | (with_reducible intro hc; with_reducible exact Bool.noConfusion hc)
        | (with_reducible intro hc; have hC := And.intro hC hc))
    refine t_loopE (fun (k2 : Nat) (E2 : Nat → PV) (H2 : Hp) => ∃ (i : Nat) (acc : List Act), i + k2 = k ∧ acc ++ callOfF b.ds k (a.ds.drop i) i = callOfF b.ds k a.ds 0 ∧ acc.length ≤ i ∧ Acc H2 (E2 7) 4 (acc.map encA) ∧ E2 8 = .int .i64 i) (k) ⟨0, [], (by first | omega | rfl | assumption | (simp only [go_sem, e0_2, e0_3, h0_6, hlt, min_ite]; first | done | rfl | assumption | omega)), ?_, (by first | omega | rfl | assumption | (simp only [go_sem, e0_2, e0_3, h0_6, hlt, min_ite]; first | done | rfl | assumption | omega)), ?_, (by simp only [go_sem, e0_2, e0_3, h0_6, hlt, min_ite]; first | done | rfl)⟩ ?_
    · rfl
    · exact Acc.nil _ _
    rintro k2 E2 H2 hfr2 ⟨i, acc, hk2, hr2, hal, hacc, h2_8⟩
    have e2_2 := hfr2 2 rfl; have e2_3 := hfr2 3 rfl; have e2_4 := hfr2 4 rfl; have e2_5 := hfr2 5 rfl; have e2_6 := hfr2 6 rfl
    simp only [go_sem, e0_2, e0_3, h0_6, hlt, min_ite] at e2_2 e2_3 e2_4 e2_5 e2_6
    clear hfr2
    by_cases hj : i < k
    · have hlt2 := lt_int hj
      have hw2 := wrap_next hj (by omega)
      obtain ⟨d, hx, hdr⟩ := at_list (xs := a.ds) (i := i) (by omega)
      obtain ⟨y, hy, _⟩ := at_list (xs := b.ds) (i := i) (by omega)
      have hia : (i : Int) < (a.ds.length : Int) := by omega
      have hib : (i : Int) < (b.ds.length : Int) := by omega
      rw [hdr, callOfF] at hr2
      have co : callOne b.ds k i d = some ⟨[], mixF d y⟩ := by
        simp only [callOne, if_neg (show ¬ (k : Int) ≤ (i : Int) by omega)]
        rw [featAt_some (by simpa using hy) (by omega)]; rfl
      rw [co] at hr2
      (have hA := And.intro e0_2 (And.intro e0_3 (And.intro h0_6 (And.intro e2_2 (And.intro e2_3 (And.intro e2_4 (And.intro e2_5 (And.intro e2_6 (h2_8)))))))); have hNE := True.intro; have hC := True.intro; repeat' first
          | ((with_reducible apply te_drwA); (focus (simp only [effFlA, List.map_cons, List.map_nil]; exact rfl)); (focus decide +kernel))
          | with_reducible refine k_seq ?_
          | with_reducible refine t_seq ?_
          | with_reducible refine t_reg ?_
          | with_reducible refine t_nil ?_
          | with_reducible refine t_skip ?_
          | with_reducible refine k_blk ?_
          | with_reducible refine t_block ?_
          | with_reducible refine m_nil ?_
          | ((with_reducible apply te_val); exact rfl; (intro _ _ _ h; cases h); (focus (simp only [go_sem, hNE, hA, hlt2, hx, hy, hia, hib, encD, encF, encA]; first | done | exact rfl)))
          | ((with_reducible apply me_val); exact rfl; (intro _ _ _ h; cases h); (focus (simp only [go_sem, hNE, hA, hlt2, hx, hy, hia, hib, encD, encF, encA]; first | done | exact rfl)))
          | ((with_reducible apply me_callS); (focus (simp only [go_sem, hNE, hA, hlt2, hx, hy, hia, hib, encD, encF, encA]; first | done | exact rfl)); (focus (simp only [go_sem, hNE, hA, hlt2, hx, hy, hia, hib, encD, encF, encA]; first | done | exact rfl)); (focus (simp only [go_sem, hNE, hA, hlt2, hx, hy, hia, hib, encD, encF, encA]; first | done | exact rfl)); (first | exact p61 d y))
          | ((with_reducible apply me_appendG); (with_reducible exact app_23; with_reducible exact c_89); (focus (simp only [go_sem, hNE, hA, hlt2, hx, hy, hia, hib, encD, encF, encA]; first | done | exact rfl)); (first | exact hacc | exact hacc.upd2 (by assumption) | exact hacc.upd1 (by assumption) | (focus (refine Acc.sub hacc (fun l c hl => ?_); simp only [go_sem, hNE, hA, hlt2, hx, hy, hia, hib, encD, encF, encA, hl]))); (focus (simp only [go_sem, hNE, hA, hlt2, hx, hy, hia, hib, encD, encF, encA]; first | done | exact rfl)); exact rfl; (focus (simp only [go_sem, hNE, hA, hlt2, hx, hy, hia, hib, encD, encF, encA]; done)); (focus (simp only [go_sem, hNE, hA, hlt2, hx, hy, hia, hib, encD, encF, encA, roomB, List.length_take, List.length_append]; first | done | omega)); (intro u Hn hacc))
          | ((with_reducible apply t_cond); (focus (simp only [go_sem, hNE, hA, hlt2, hx, hy, hia, hib, encD, encF, encA]; first | done | exact rfl)))
          | (with_reducible intro hc; with_reducible exact Bool.noConfusion hc)
          | (with_reducible intro hc; have hC := And.intro hC hc))
      refine k_invE (k2 - 1) (by omega) ⟨i + 1, acc ++ [⟨[], mixF d y⟩], (by omega), ?_, ?_, ?_, (by simp only [go_sem, e0_2, e0_3, h0_6, e2_2, e2_3, e2_4, e2_5, e2_6, h2_8, hw2]; first | done | rfl)⟩
      · rw [List.append_assoc]; exact hr2
      · rw [List.length_append, List.length_singleton]; omega
      · rw [List.map_append]; exact hacc
    · have hlt2 := nlt_int hj
      have hik : i = k := by omega
      subst hik
      (have hA := And.intro e0_2 (And.intro e0_3 (And.intro h0_6 (And.intro e2_2 (And.intro e2_3 (And.intro e2_4 (And.intro e2_5 (And.intro e2_6 (h2_8)))))))); have hNE := True.intro; have hC := True.intro; repeat' first
          | with_reducible refine k_seq ?_
          | with_reducible refine t_seq ?_
          | with_reducible refine t_reg ?_
          | with_reducible refine t_nil ?_
          | with_reducible refine t_exit ?_
          | with_reducible refine k_seq_exit ?_
          | with_reducible refine k_blk_exit ?_
          | with_reducible refine k_invE_exit ?_
          | with_reducible refine t_block ?_
          | ((with_reducible apply te_val); exact rfl; (intro _ _ _ h; cases h); (focus (simp only [go_sem, hNE, hA, hlt2]; first | done | exact rfl)))
          | ((with_reducible apply t_cond); (focus (simp only [go_sem, hNE, hA, hlt2]; first | done | exact rfl)))
          | (with_reducible intro hc; with_reducible exact Bool.noConfusion hc)
          | (with_reducible intro hc; have hC := And.intro hC hc))
      refine t_loopE (fun (k4 : Nat) (E4 : Nat → PV) (H4 : Hp) => ∃ (j : Nat) (acc : List Act), j + k4 = a.ds.length ∧ i ≤ j ∧ acc ++ callOfF b.ds i (a.ds.drop j) j = callOfF b.ds i a.ds 0 ∧ acc.length ≤ j ∧ Acc H4 (E4 7) 4 (acc.map encA) ∧ E4 9 = .int .i64 j) (a.ds.length - i) ⟨i, acc, (by first | omega | rfl | assumption | (simp only [go_sem, e0_2, e0_3, h0_6, e2_2, e2_3, e2_4, e2_5, e2_6, h2_8, hlt2]; first | done | rfl | assumption | omega)), (by first | omega | rfl | assumption | (simp only [go_sem, e0_2, e0_3, h0_6, e2_2, e2_3, e2_4, e2_5, e2_6, h2_8, hlt2]; first | done | rfl | assumption | omega)), ?_, (by first | omega | rfl | assumption | (simp only [go_sem, e0_2, e0_3, h0_6, e2_2, e2_3, e2_4, e2_5, e2_6, h2_8, hlt2]; first | done | rfl | assumption | omega)), ?_, (by simp only [go_sem, e0_2, e0_3, h0_6, e2_2, e2_3, e2_4, e2_5, e2_6, h2_8, hlt2]; first | done | rfl)⟩ ?_
      · exact hr2
      · exact hacc
      rintro k4 E4 H4 hfr4 ⟨j, acc, hk4, hij, hr4, hal4, hacc, h4_9⟩
      have e4_2 := hfr4 2 rfl; have e4_3 := hfr4 3 rfl; have e4_4 := hfr4 4 rfl; have e4_5 := hfr4 5 rfl; have e4_6 := hfr4 6 rfl
      simp only [go_sem, e0_2, e0_3, h0_6, e2_2, e2_3, e2_4, e2_5, e2_6, h2_8, hlt2] at e4_2 e4_3 e4_4 e4_5 e4_6
      clear hfr4
      by_cases hj4 : j < a.ds.length
      · obtain ⟨d, hx, hdr⟩ := at_list hj4
        have hlt4 := lt_int hj4
        have hw4 := wrap_next hj4 (show a.ds.length ≤ 1000 by omega)
        have hle := Int.le_of_lt hlt4
        rw [hdr, callOfF] at hr4
        have hik : (i : Int) ≤ (j : Int) := by omega
        rcases named_le b.ds d.name with hn | ⟨hq1, hq2⟩
        · have hkn : ((i : Int) ≤ named b.ds d.name) = False := eq_false (by omega)
          have hq0 : (0 ≤ named b.ds d.name) = False := eq_false (by omega)
          have co : callOne b.ds i j d = if d.opt = true then none else some ⟨d.name, d.f⟩ := by
            simp only [callOne, if_pos hik, neededB, hkn, decide_false, Bool.false_and, Bool.not_false, Bool.and_true, featAt_neg hn]
          (have hA := And.intro e0_2 (And.intro e0_3 (And.intro h0_6 (And.intro e2_2 (And.intro e2_3 (And.intro e2_4 (And.intro e2_5 (And.intro e2_6 (And.intro h2_8 (And.intro e4_2 (And.intro e4_3 (And.intro e4_4 (And.intro e4_5 (And.intro e4_6 (h4_9)))))))))))))); have hNE := True.intro; have hC := True.intro; repeat' first
              | ((with_reducible apply te_drwA); (focus (simp only [effFlA, List.map_cons, List.map_nil]; exact rfl)); (focus decide +kernel))
              | with_reducible refine k_seq ?_
              | with_reducible refine t_seq ?_
              | with_reducible refine t_reg ?_
              | with_reducible refine t_nil ?_
              | with_reducible refine t_skip ?_
              | with_reducible refine t_exit ?_
              | with_reducible refine k_seq_exit ?_
              | with_reducible refine k_blk_exit ?_
              | with_reducible refine k_blk ?_
              | with_reducible refine t_block ?_
              | with_reducible refine m_nil ?_
              | ((with_reducible apply te_val); exact rfl; (intro _ _ _ h; cases h); (focus (simp only [go_sem, hNE, hA, hlt4, hle, hx, hw4, hkn, hq0, encD, encF, encA]; first | done | exact rfl)))
              | ((with_reducible apply te_gval); exact rfl; (focus (simp only [go_sem, hNE, hA, hlt4, hle, hx, hw4, hkn, hq0, encD, encF, encA]; first | done | exact rfl)); exact rfl; (intro _ _ _ h; cases h); (focus (intro hG; simp only [go_sem, hNE, hA, hlt4, hle, hx, hw4, hkn, hq0, encD, encF, encA, hG]; first | done | exact rfl)))
              | ((with_reducible apply te_gno); exact rfl; (focus (simp only [go_sem, hNE, hA, hlt4, hle, hx, hw4, hkn, hq0, encD, encF, encA]; first | done | exact rfl)); exact rfl)
              | ((with_reducible apply me_val); exact rfl; (intro _ _ _ h; cases h); (focus (simp only [go_sem, hNE, hA, hlt4, hle, hx, hw4, hkn, hq0, encD, encF, encA]; first | done | exact rfl)))
              | ((with_reducible apply me_callS); (focus (simp only [go_sem, hNE, hA, hlt4, hle, hx, hw4, hkn, hq0, encD, encF, encA]; first | done | exact rfl)); (focus (simp only [go_sem, hNE, hA, hlt4, hle, hx, hw4, hkn, hq0, encD, encF, encA]; first | done | exact rfl)); (focus (simp only [go_sem, hNE, hA, hlt4, hle, hx, hw4, hkn, hq0, encD, encF, encA]; first | done | exact rfl)); (first | exact p62 b.ds d.name (by omega)))
              | ((with_reducible apply te_alloc); (focus (simp only [go_sem, hNE, hA, hlt4, hle, hx, hw4, hkn, hq0, encD, encF, encA]; first | done | exact rfl)); exact rfl; exact rfl; (intro la ha hn1; have hNE := And.intro hNE hn1))
              | ((with_reducible apply te_store); (focus (simp only [go_sem, hNE, hA, hlt4, hle, hx, hw4, hkn, hq0, encD, encF, encA]; first | done | exact rfl)); (focus (simp only [go_sem, hNE, hA, hlt4, hle, hx, hw4, hkn, hq0, encD, encF, encA]; first | done | exact rfl)); (focus (simp only [go_sem, hNE, hA, hlt4, hle, hx, hw4, hkn, hq0, encD, encF, encA]; first | done | exact rfl)); (focus (simp only [go_sem, hNE, hA, hlt4, hle, hx, hw4, hkn, hq0, encD, encF, encA]; first | done | exact rfl)); (focus (simp only [go_sem, hNE, hA, hlt4, hle, hx, hw4, hkn, hq0, encD, encF, encA]; first | done | exact rfl)); (focus (simp only [go_sem, hNE, hA, hlt4, hle, hx, hw4, hkn, hq0, encD, encF, encA]; first | done | exact rfl)))
              | ((with_reducible apply te_appendG); (with_reducible exact app_23; with_reducible exact c_89); (focus (simp only [go_sem, hNE, hA, hlt4, hle, hx, hw4, hkn, hq0, encD, encF, encA]; first | done | exact rfl)); (first | exact hacc | exact hacc.upd2 (by assumption) | exact hacc.upd1 (by assumption) | (focus (refine Acc.sub hacc (fun l c hl => ?_); simp only [go_sem, hNE, hA, hlt4, hle, hx, hw4, hkn, hq0, encD, encF, encA, hl]))); (focus (simp only [go_sem, hNE, hA, hlt4, hle, hx, hw4, hkn, hq0, encD, encF, encA]; first | done | exact rfl)); exact rfl; (focus (simp only [go_sem, hNE, hA, hlt4, hle, hx, hw4, hkn, hq0, encD, encF, encA]; done)); (focus (simp only [go_sem, hNE, hA, hlt4, hle, hx, hw4, hkn, hq0, encD, encF, encA, roomB, List.length_take, List.length_append]; first | done | omega)); (intro u Hn hacc))
              | ((with_reducible apply t_cond); (focus (simp only [go_sem, hNE, hA, hlt4, hle, hx, hw4, hkn, hq0, encD, encF, encA]; first | done | exact rfl)))
              | (with_reducible intro hc; with_reducible exact Bool.noConfusion hc)
              | (with_reducible intro hc; have hC := And.intro hC hc))
          · refine k_invE (k4 - 1) (by omega) ⟨j + 1, acc, (by omega), ?_, ?_, ?_, ?_, (by simp only [go_sem, e0_2, e0_3, h0_6, e2_2, e2_3, e2_4, e2_5, e2_6, h2_8, e4_2, e4_3, e4_4, e4_5, e4_6, h4_9, hw4]; first | done | rfl)⟩
            · omega
            · rw [show callOne b.ds i j d = none by rw [co]; simp only [go_sem, hkn, hC]] at hr4
              exact hr4
            · omega
            · exact hacc.sub (fun l c hl => by simp only [go_sem, hNE, hl])
          · refine k_invE (k4 - 1) (by omega) ⟨j + 1, acc ++ [(⟨d.name, d.f⟩ : Act)], (by omega), ?_, ?_, ?_, ?_, (by simp only [go_sem, e0_2, e0_3, h0_6, e2_2, e2_3, e2_4, e2_5, e2_6, h2_8, e4_2, e4_3, e4_4, e4_5, e4_6, h4_9, hw4]; first | done | rfl)⟩
            · omega
            · rw [show callOne b.ds i j d = some (⟨d.name, d.f⟩ : Act) by rw [co]; simp only [go_sem, hkn, hC]] at hr4
              rw [List.append_assoc]; exact hr4
            · rw [List.length_append, List.length_singleton]; omega
            · rw [List.map_append]; exact hacc
        · obtain ⟨y, hy⟩ := get_dec hq1 hq2
          have co : callOne b.ds i j d = if (d.opt && !(decide ((i : Int) ≤ named b.ds d.name) && !y.opt)) = true then none else some ⟨d.name, mixF d y⟩ := by
            simp only [callOne, if_pos hik, neededB, optAt_some hy, featAt_some hy hq1]; rfl
          by_cases hkn : (i : Int) ≤ named b.ds d.name
          · (have hA := And.intro e0_2 (And.intro e0_3 (And.intro h0_6 (And.intro e2_2 (And.intro e2_3 (And.intro e2_4 (And.intro e2_5 (And.intro e2_6 (And.intro h2_8 (And.intro e4_2 (And.intro e4_3 (And.intro e4_4 (And.intro e4_5 (And.intro e4_6 (h4_9)))))))))))))); have hNE := True.intro; have hC := True.intro; repeat' first
                | ((with_reducible apply te_drwA); (focus (simp only [effFlA, List.map_cons, List.map_nil]; exact rfl)); (focus decide +kernel))
                | with_reducible refine k_seq ?_
                | with_reducible refine t_seq ?_
                | with_reducible refine t_reg ?_
                | with_reducible refine t_nil ?_
                | with_reducible refine t_skip ?_
                | with_reducible refine t_exit ?_
                | with_reducible refine k_seq_exit ?_
                | with_reducible refine k_blk_exit ?_
                | with_reducible refine k_blk ?_
                | with_reducible refine t_block ?_
                | with_reducible refine m_nil ?_
                | ((with_reducible apply te_val); exact rfl; (intro _ _ _ h; cases h); (focus (simp only [go_sem, hNE, hA, hlt4, hle, hx, hw4, hkn, hq1, hq2, hy, encD, encF, encA]; first | done | exact rfl)))
                | ((with_reducible apply te_gval); exact rfl; (focus (simp only [go_sem, hNE, hA, hlt4, hle, hx, hw4, hkn, hq1, hq2, hy, encD, encF, encA]; first | done | exact rfl)); exact rfl; (intro _ _ _ h; cases h); (focus (intro hG; simp only [go_sem, hNE, hA, hlt4, hle, hx, hw4, hkn, hq1, hq2, hy, encD, encF, encA, hG]; first | done | exact rfl)))
                | ((with_reducible apply me_val); exact rfl; (intro _ _ _ h; cases h); (focus (simp only [go_sem, hNE, hA, hlt4, hle, hx, hw4, hkn, hq1, hq2, hy, encD, encF, encA]; first | done | exact rfl)))
                | ((with_reducible apply me_callS); (focus (simp only [go_sem, hNE, hA, hlt4, hle, hx, hw4, hkn, hq1, hq2, hy, encD, encF, encA]; first | done | exact rfl)); (focus (simp only [go_sem, hNE, hA, hlt4, hle, hx, hw4, hkn, hq1, hq2, hy, encD, encF, encA]; first | done | exact rfl)); (focus (simp only [go_sem, hNE, hA, hlt4, hle, hx, hw4, hkn, hq1, hq2, hy, encD, encF, encA]; first | done | exact rfl)); (first | exact p62 b.ds d.name (by omega) | exact p61 d y))
                | ((with_reducible apply te_alloc); (focus (simp only [go_sem, hNE, hA, hlt4, hle, hx, hw4, hkn, hq1, hq2, hy, encD, encF, encA]; first | done | exact rfl)); exact rfl; exact rfl; (intro la ha hn1; have hNE := And.intro hNE hn1))
                | ((with_reducible apply te_store); (focus (simp only [go_sem, hNE, hA, hlt4, hle, hx, hw4, hkn, hq1, hq2, hy, encD, encF, encA]; first | done | exact rfl)); (focus (simp only [go_sem, hNE, hA, hlt4, hle, hx, hw4, hkn, hq1, hq2, hy, encD, encF, encA]; first | done | exact rfl)); (focus (simp only [go_sem, hNE, hA, hlt4, hle, hx, hw4, hkn, hq1, hq2, hy, encD, encF, encA]; first | done | exact rfl)); (focus (simp only [go_sem, hNE, hA, hlt4, hle, hx, hw4, hkn, hq1, hq2, hy, encD, encF, encA]; first | done | exact rfl)); (focus (simp only [go_sem, hNE, hA, hlt4, hle, hx, hw4, hkn, hq1, hq2, hy, encD, encF, encA]; first | done | exact rfl)); (focus (simp only [go_sem, hNE, hA, hlt4, hle, hx, hw4, hkn, hq1, hq2, hy, encD, encF, encA]; first | done | exact rfl)))
                | ((with_reducible apply te_appendG); (with_reducible exact app_23; with_reducible exact c_89); (focus (simp only [go_sem, hNE, hA, hlt4, hle, hx, hw4, hkn, hq1, hq2, hy, encD, encF, encA]; first | done | exact rfl)); (first | exact hacc | exact hacc.upd2 (by assumption) | exact hacc.upd1 (by assumption) | (focus (refine Acc.sub hacc (fun l c hl => ?_); simp only [go_sem, hNE, hA, hlt4, hle, hx, hw4, hkn, hq1, hq2, hy, encD, encF, encA, hl]))); (focus (simp only [go_sem, hNE, hA, hlt4, hle, hx, hw4, hkn, hq1, hq2, hy, encD, encF, encA]; first | done | exact rfl)); exact rfl; (focus (simp only [go_sem, hNE, hA, hlt4, hle, hx, hw4, hkn, hq1, hq2, hy, encD, encF, encA]; done)); (focus (simp only [go_sem, hNE, hA, hlt4, hle, hx, hw4, hkn, hq1, hq2, hy, encD, encF, encA, roomB, List.length_take, List.length_append]; first | done | omega)); (intro u Hn hacc))
                | ((with_reducible apply me_store); (focus (simp only [go_sem, hNE, hA, hlt4, hle, hx, hw4, hkn, hq1, hq2, hy, encD, encF, encA]; first | done | exact rfl)); (focus (simp only [go_sem, hNE, hA, hlt4, hle, hx, hw4, hkn, hq1, hq2, hy, encD, encF, encA]; first | done | exact rfl)); (focus (simp only [go_sem, hNE, hA, hlt4, hle, hx, hw4, hkn, hq1, hq2, hy, encD, encF, encA]; first | done | exact rfl)); (focus (simp only [go_sem, hNE, hA, hlt4, hle, hx, hw4, hkn, hq1, hq2, hy, encD, encF, encA]; first | done | exact rfl)); (focus (simp only [go_sem, hNE, hA, hlt4, hle, hx, hw4, hkn, hq1, hq2, hy, encD, encF, encA]; first | done | exact rfl)); (focus (simp only [go_sem, hNE, hA, hlt4, hle, hx, hw4, hkn, hq1, hq2, hy, encD, encF, encA]; first | done | exact rfl)))
                | ((with_reducible apply t_cond); (focus (simp only [go_sem, hNE, hA, hlt4, hle, hx, hw4, hkn, hq1, hq2, hy, encD, encF, encA]; first | done | exact rfl)))
                | (with_reducible intro hc; with_reducible exact Bool.noConfusion hc)
                | (with_reducible intro hc; have hC := And.intro hC hc))
            · refine k_invE (k4 - 1) (by omega) ⟨j + 1, acc, (by omega), ?_, ?_, ?_, ?_, (by simp only [go_sem, e0_2, e0_3, h0_6, e2_2, e2_3, e2_4, e2_5, e2_6, h2_8, e4_2, e4_3, e4_4, e4_5, e4_6, h4_9, hw4]; first | done | rfl)⟩
              · omega
              · rw [show callOne b.ds i j d = none by rw [co]; simp only [go_sem, hkn, hC]] at hr4
                exact hr4
              · omega
              · exact hacc.sub (fun l c hl => by simp only [go_sem, hNE, hl])
            · refine k_invE (k4 - 1) (by omega) ⟨j + 1, acc ++ [(⟨d.name, mixF d y⟩ : Act)], (by omega), ?_, ?_, ?_, ?_, (by simp only [go_sem, e0_2, e0_3, h0_6, e2_2, e2_3, e2_4, e2_5, e2_6, h2_8, e4_2, e4_3, e4_4, e4_5, e4_6, h4_9, hw4]; first | done | rfl)⟩
              · omega
              · rw [show callOne b.ds i j d = some (⟨d.name, mixF d y⟩ : Act) by rw [co]; simp only [go_sem, hkn, hC]] at hr4
                rw [List.append_assoc]; exact hr4
              · rw [List.length_append, List.length_singleton]; omega
              · rw [List.map_append]; exact hacc
          · (have hA := And.intro e0_2 (And.intro e0_3 (And.intro h0_6 (And.intro e2_2 (And.intro e2_3 (And.intro e2_4 (And.intro e2_5 (And.intro e2_6 (And.intro h2_8 (And.intro e4_2 (And.intro e4_3 (And.intro e4_4 (And.intro e4_5 (And.intro e4_6 (h4_9)))))))))))))); have hNE := True.intro; have hC := True.intro; repeat' first
                | ((with_reducible apply te_drwA); (focus (simp only [effFlA, List.map_cons, List.map_nil]; exact rfl)); (focus decide +kernel))
                | with_reducible refine k_seq ?_
                | with_reducible refine t_seq ?_
                | with_reducible refine t_reg ?_
                | with_reducible refine t_nil ?_
                | with_reducible refine t_skip ?_
                | with_reducible refine t_exit ?_
                | with_reducible refine k_seq_exit ?_
                | with_reducible refine k_blk_exit ?_
                | with_reducible refine k_blk ?_
                | with_reducible refine t_block ?_
                | with_reducible refine m_nil ?_
                | ((with_reducible apply te_val); exact rfl; (intro _ _ _ h; cases h); (focus (simp only [go_sem, hNE, hA, hlt4, hle, hx, hw4, hkn, hq1, hq2, hy, encD, encF, encA]; first | done | exact rfl)))
                | ((with_reducible apply te_gval); exact rfl; (focus (simp only [go_sem, hNE, hA, hlt4, hle, hx, hw4, hkn, hq1, hq2, hy, encD, encF, encA]; first | done | exact rfl)); exact rfl; (intro _ _ _ h; cases h); (focus (intro hG; simp only [go_sem, hNE, hA, hlt4, hle, hx, hw4, hkn, hq1, hq2, hy, encD, encF, encA, hG]; first | done | exact rfl)))
                | ((with_reducible apply te_gno); exact rfl; (focus (simp only [go_sem, hNE, hA, hlt4, hle, hx, hw4, hkn, hq1, hq2, hy, encD, encF, encA]; first | done | exact rfl)); exact rfl)
                | ((with_reducible apply me_val); exact rfl; (intro _ _ _ h; cases h); (focus (simp only [go_sem, hNE, hA, hlt4, hle, hx, hw4, hkn, hq1, hq2, hy, encD, encF, encA]; first | done | exact rfl)))
                | ((with_reducible apply me_callS); (focus (simp only [go_sem, hNE, hA, hlt4, hle, hx, hw4, hkn, hq1, hq2, hy, encD, encF, encA]; first | done | exact rfl)); (focus (simp only [go_sem, hNE, hA, hlt4, hle, hx, hw4, hkn, hq1, hq2, hy, encD, encF, encA]; first | done | exact rfl)); (focus (simp only [go_sem, hNE, hA, hlt4, hle, hx, hw4, hkn, hq1, hq2, hy, encD, encF, encA]; first | done | exact rfl)); (first | exact p62 b.ds d.name (by omega) | exact p61 d y))
                | ((with_reducible apply te_alloc); (focus (simp only [go_sem, hNE, hA, hlt4, hle, hx, hw4, hkn, hq1, hq2, hy, encD, encF, encA]; first | done | exact rfl)); exact rfl; exact rfl; (intro la ha hn1; have hNE := And.intro hNE hn1))
                | ((with_reducible apply te_store); (focus (simp only [go_sem, hNE, hA, hlt4, hle, hx, hw4, hkn, hq1, hq2, hy, encD, encF, encA]; first | done | exact rfl)); (focus (simp only [go_sem, hNE, hA, hlt4, hle, hx, hw4, hkn, hq1, hq2, hy, encD, encF, encA]; first | done | exact rfl)); (focus (simp only [go_sem, hNE, hA, hlt4, hle, hx, hw4, hkn, hq1, hq2, hy, encD, encF, encA]; first | done | exact rfl)); (focus (simp only [go_sem, hNE, hA, hlt4, hle, hx, hw4, hkn, hq1, hq2, hy, encD, encF, encA]; first | done | exact rfl)); (focus (simp only [go_sem, hNE, hA, hlt4, hle, hx, hw4, hkn, hq1, hq2, hy, encD, encF, encA]; first | done | exact rfl)); (focus (simp only [go_sem, hNE, hA, hlt4, hle, hx, hw4, hkn, hq1, hq2, hy, encD, encF, encA]; first | done | exact rfl)))
                | ((with_reducible apply te_appendG); (with_reducible exact app_23; with_reducible exact c_89); (focus (simp only [go_sem, hNE, hA, hlt4, hle, hx, hw4, hkn, hq1, hq2, hy, encD, encF, encA]; first | done | exact rfl)); (first | exact hacc | exact hacc.upd2 (by assumption) | exact hacc.upd1 (by assumption) | (focus (refine Acc.sub hacc (fun l c hl => ?_); simp only [go_sem, hNE, hA, hlt4, hle, hx, hw4, hkn, hq1, hq2, hy, encD, encF, encA, hl]))); (focus (simp only [go_sem, hNE, hA, hlt4, hle, hx, hw4, hkn, hq1, hq2, hy, encD, encF, encA]; first | done | exact rfl)); exact rfl; (focus (simp only [go_sem, hNE, hA, hlt4, hle, hx, hw4, hkn, hq1, hq2, hy, encD, encF, encA]; done)); (focus (simp only [go_sem, hNE, hA, hlt4, hle, hx, hw4, hkn, hq1, hq2, hy, encD, encF, encA, roomB, List.length_take, List.length_append]; first | done | omega)); (intro u Hn hacc))
                | ((with_reducible apply me_store); (focus (simp only [go_sem, hNE, hA, hlt4, hle, hx, hw4, hkn, hq1, hq2, hy, encD, encF, encA]; first | done | exact rfl)); (focus (simp only [go_sem, hNE, hA, hlt4, hle, hx, hw4, hkn, hq1, hq2, hy, encD, encF, encA]; first | done | exact rfl)); (focus (simp only [go_sem, hNE, hA, hlt4, hle, hx, hw4, hkn, hq1, hq2, hy, encD, encF, encA]; first | done | exact rfl)); (focus (simp only [go_sem, hNE, hA, hlt4, hle, hx, hw4, hkn, hq1, hq2, hy, encD, encF, encA]; first | done | exact rfl)); (focus (simp only [go_sem, hNE, hA, hlt4, hle, hx, hw4, hkn, hq1, hq2, hy, encD, encF, encA]; first | done | exact rfl)); (focus (simp only [go_sem, hNE, hA, hlt4, hle, hx, hw4, hkn, hq1, hq2, hy, encD, encF, encA]; first | done | exact rfl)))
                | ((with_reducible apply t_cond); (focus (simp only [go_sem, hNE, hA, hlt4, hle, hx, hw4, hkn, hq1, hq2, hy, encD, encF, encA]; first | done | exact rfl)))
                | (with_reducible intro hc; with_reducible exact Bool.noConfusion hc)
                | (with_reducible intro hc; have hC := And.intro hC hc))
            · refine k_invE (k4 - 1) (by omega) ⟨j + 1, acc, (by omega), ?_, ?_, ?_, ?_, (by simp only [go_sem, e0_2, e0_3, h0_6, e2_2, e2_3, e2_4, e2_5, e2_6, h2_8, e4_2, e4_3, e4_4, e4_5, e4_6, h4_9, hw4]; first | done | rfl)⟩
              · omega
              · rw [show callOne b.ds i j d = none by rw [co]; simp only [go_sem, hkn, hC]] at hr4
                exact hr4
              · omega
              · exact hacc.sub (fun l c hl => by simp only [go_sem, hNE, hl])
            · refine k_invE (k4 - 1) (by omega) ⟨j + 1, acc ++ [(⟨d.name, mixF d y⟩ : Act)], (by omega), ?_, ?_, ?_, ?_, (by simp only [go_sem, e0_2, e0_3, h0_6, e2_2, e2_3, e2_4, e2_5, e2_6, h2_8, e4_2, e4_3, e4_4, e4_5, e4_6, h4_9, hw4]; first | done | rfl)⟩
              · omega
              · rw [show callOne b.ds i j d = some (⟨d.name, mixF d y⟩ : Act) by rw [co]; simp only [go_sem, hkn, hC]] at hr4
                rw [List.append_assoc]; exact hr4
              · rw [List.length_append, List.length_singleton]; omega
              · rw [List.map_append]; exact hacc
      · have hlt4 := nlt_int hj4
        have hje : j = a.ds.length := by omega
        rw [at_end hj4, callOfF, List.append_nil] at hr4
        rw [← hr4] at q1 q2 hlc
        have hcm : cm a b i = if ((matchF a acc).isSome && (matchF b acc).isSome) = true then some acc else none := by rw [cm, ← hr4]
        rcases hacc with ⟨hz, q, hq, h7⟩ | ⟨l, h7, hl⟩
        · rw [hz] at q1 q2
          have hza : acc = [] := List.map_eq_nil_iff.1 hz
          subst hza
          skip
          (have hA := And.intro e0_2 (And.intro e0_3 (And.intro h0_6 (And.intro e2_2 (And.intro e2_3 (And.intro e2_4 (And.intro e2_5 (And.intro e2_6 (And.intro h2_8 (And.intro e4_2 (And.intro e4_3 (And.intro e4_4 (And.intro e4_5 (And.intro e4_6 (And.intro h4_9 (h7))))))))))))))); have hNE := True.intro; have hC := True.intro; repeat' first
              | with_reducible refine k_seq ?_
              | with_reducible refine t_seq ?_
              | with_reducible refine t_reg ?_
              | with_reducible refine t_nil ?_
              | with_reducible refine t_skip ?_
              | with_reducible refine t_ret ?_
              | with_reducible refine t_exit ?_
              | with_reducible refine k_seq_exit ?_
              | with_reducible refine k_seq_ret ?_
              | with_reducible refine k_blk_exit ?_
              | with_reducible refine k_blk_ret ?_
              | with_reducible refine k_blk ?_
              | with_reducible refine k_invE_ret ?_
              | with_reducible refine k_invE_exit ?_
              | ((with_reducible apply te_val); exact rfl; (intro _ _ _ h; cases h); (focus (simp only [go_sem, hNE, hA, hlt4, hq]; first | done | exact rfl)))
              | ((with_reducible apply te_callS); (focus (simp only [go_sem, hNE, hA, hlt4, hq]; first | done | exact rfl)); (focus (simp only [go_sem, hNE, hA, hlt4, hq]; first | done | exact rfl)); (focus (simp only [go_sem, hNE, hA, hlt4, hq]; first | done | exact rfl)); (first | exact q1 | exact q2))
              | ((with_reducible apply te_gval); exact rfl; (focus (simp only [go_sem, hNE, hA, hlt4, hq]; first | done | exact rfl)); exact rfl; (intro _ _ _ h; cases h); (focus (intro hG; simp only [go_sem, hNE, hA, hlt4, hq, hG]; first | done | exact rfl)))
              | ((with_reducible apply t_cond); (focus (simp only [go_sem, hNE, hA, hlt4, hq]; first | done | exact rfl)))
              | (with_reducible intro hc; with_reducible exact Bool.noConfusion hc)
              | (with_reducible intro hc; have hC := And.intro hC hc))
          · have e : cm a b i = some [] := by rw [hcm, if_pos (by simpa using hC.2)]
            rw [e] at hr
            simp only at hr
            rw [hcf, ← hr]
            (first | apply pend rs27 | apply pendN rs27); (focus (simp only [go_sem, e0_2, e0_3, h0_6, e2_2, e2_3, e2_4, e2_5, e2_6, h2_8, e4_2, e4_3, e4_4, e4_5, e4_6, h4_9, h7, hq]; first | done | exact rfl)); (focus (simp only [go_sem, e0_2, e0_3, h0_6, e2_2, e2_3, e2_4, e2_5, e2_6, h2_8, e4_2, e4_3, e4_4, e4_5, e4_6, h4_9, h7, hq]; first | done | exact rfl))
          · have e : cm a b i = none := by rw [hcm, if_neg (by simpa using hC.2)]
            rw [e] at hr
            simp only at hr
            refine k_invE (k0 - 1) (by omega) ⟨i + 1, (by omega), ?_, (by simp only [go_sem, e0_2, e0_3, h0_6, e2_2, e2_3, e2_4, e2_5, e2_6, h2_8, e4_2, e4_3, e4_4, e4_5, e4_6, h4_9, h7, hw0]; first | done | rfl)⟩
            rw [hk1]; exact hr
        · skip
          (have hA := And.intro e0_2 (And.intro e0_3 (And.intro h0_6 (And.intro e2_2 (And.intro e2_3 (And.intro e2_4 (And.intro e2_5 (And.intro e2_6 (And.intro h2_8 (And.intro e4_2 (And.intro e4_3 (And.intro e4_4 (And.intro e4_5 (And.intro e4_6 (And.intro h4_9 (And.intro h7 (hl)))))))))))))))); have hNE := True.intro; have hC := True.intro; repeat' first
              | with_reducible refine k_seq ?_
              | with_reducible refine t_seq ?_
              | with_reducible refine t_reg ?_
              | with_reducible refine t_nil ?_
              | with_reducible refine t_exit ?_
              | with_reducible refine k_seq_exit ?_
              | with_reducible refine k_blk_exit ?_
              | with_reducible refine k_invE_exit ?_
              | ((with_reducible apply te_val); exact rfl; (intro _ _ _ h; cases h); (focus (simp only [go_sem, hNE, hA, hlt4]; first | done | exact rfl)))
              | ((with_reducible apply t_cond); (focus (simp only [go_sem, hNE, hA, hlt4]; first | done | exact rfl)))
              | (with_reducible intro hc; with_reducible exact Bool.noConfusion hc)
              | (with_reducible intro hc; have hC := And.intro hC hc))
          (with_reducible apply te_callF [l])
          · (focus (simp only [go_sem]; first | done | exact rfl))
          · (focus (simp only [go_sem, h7, hl, e4_2, e4_3]; first | done | exact rfl))
          · (focus (simp only [go_sem, h7, hl, clAs, nmA, nmA6]; first | done | exact rfl))
          · exact q1
          (have hA := And.intro e0_2 (And.intro e0_3 (And.intro h0_6 (And.intro e2_2 (And.intro e2_3 (And.intro e2_4 (And.intro e2_5 (And.intro e2_6 (And.intro h2_8 (And.intro e4_2 (And.intro e4_3 (And.intro e4_4 (And.intro e4_5 (And.intro e4_6 (And.intro h4_9 (And.intro h7 (hl)))))))))))))))); have hNE := True.intro; have hC := True.intro; repeat' first
              | with_reducible refine k_seq ?_
              | with_reducible refine t_seq ?_
              | with_reducible refine t_reg ?_
              | with_reducible refine t_nil ?_
              | ((with_reducible apply te_val); exact rfl; (intro _ _ _ h; cases h); (focus (simp only [go_sem, hNE, hA, hlt4]; first | done | exact rfl))))
          (with_reducible apply te_callF [l])
          · (focus (simp only [go_sem]; first | done | exact rfl))
          · (focus (simp only [go_sem, h7, hl, e4_2, e4_3]; first | done | exact rfl))
          · (focus (simp only [go_sem, h7, hl, clAs, nmA, nmA6]; first | done | exact rfl))
          · exact q2
          (have hA := And.intro e0_2 (And.intro e0_3 (And.intro h0_6 (And.intro e2_2 (And.intro e2_3 (And.intro e2_4 (And.intro e2_5 (And.intro e2_6 (And.intro h2_8 (And.intro e4_2 (And.intro e4_3 (And.intro e4_4 (And.intro e4_5 (And.intro e4_6 (And.intro h4_9 (And.intro h7 (hl)))))))))))))))); have hNE := True.intro; have hC := True.intro; repeat' first
              | with_reducible refine k_seq ?_
              | with_reducible refine t_seq ?_
              | with_reducible refine t_reg ?_
              | with_reducible refine t_nil ?_
              | with_reducible refine t_skip ?_
              | with_reducible refine t_ret ?_
              | with_reducible refine k_seq_ret ?_
              | with_reducible refine k_blk_ret ?_
              | with_reducible refine k_blk ?_
              | with_reducible refine k_invE_ret ?_
              | ((with_reducible apply te_val); exact rfl; (intro _ _ _ h; cases h); (focus (simp only [go_sem, hNE, hA, hlt4]; first | done | exact rfl)))
              | ((with_reducible apply te_gval); exact rfl; (focus (simp only [go_sem, hNE, hA, hlt4]; first | done | exact rfl)); exact rfl; (intro _ _ _ h; cases h); (focus (intro hG; simp only [go_sem, hNE, hA, hlt4, hG]; first | done | exact rfl)))
              | ((with_reducible apply t_cond); (focus (simp only [go_sem, hNE, hA, hlt4]; first | done | exact rfl)))
              | (with_reducible intro hc; have hC := And.intro hC hc))
          · have e : cm a b i = some acc := by rw [hcm, if_pos (by simpa using hC.2)]
            rw [e] at hr
            simp only at hr
            rw [hcf, ← hr]
            (first | apply pend rs27 | apply pendN rs27); (focus (simp only [go_sem, e0_2, e0_3, h0_6, e2_2, e2_3, e2_4, e2_5, e2_6, h2_8, e4_2, e4_3, e4_4, e4_5, e4_6, h4_9, h7, hl, clAs, nmA, nmA6]; first | done | exact rfl)); (focus (simp only [go_sem, e0_2, e0_3, h0_6, e2_2, e2_3, e2_4, e2_5, e2_6, h2_8, e4_2, e4_3, e4_4, e4_5, e4_6, h4_9, h7, hl, clAs, nmA, nmA6]; first | done | exact rfl))
          · have e : cm a b i = none := by rw [hcm, if_neg (by simpa using hC.2)]
            rw [e] at hr
            simp only at hr
            refine k_invE (k0 - 1) (by omega) ⟨i + 1, (by omega), ?_, (by simp only [go_sem, e0_2, e0_3, h0_6, e2_2, e2_3, e2_4, e2_5, e2_6, h2_8, e4_2, e4_3, e4_4, e4_5, e4_6, h4_9, h7, hl, hw0]; first | done | rfl)⟩
            rw [hk1]; exact hr
  · have hlt : ((k : Int) ≤ ((min a.ds.length b.ds.length : Nat) : Int)) = False := eq_false (by omega)
    have hz : k0 = 0 := by omega
    rw [hz, srch] at hr
    (have hA := And.intro e0_2 (And.intro e0_3 (h0_6)); have hNE := True.intro; have hC := True.intro; repeat' first
        | with_reducible refine k_seq ?_
        | with_reducible refine t_seq ?_
        | with_reducible refine t_reg ?_
        | with_reducible refine t_nil ?_
        | with_reducible refine t_ret ?_
        | with_reducible refine t_exit ?_
        | with_reducible refine k_seq_exit ?_
        | with_reducible refine k_blk_exit ?_
        | with_reducible refine k_invE_exit ?_
        | ((with_reducible apply te_val); exact rfl; (intro _ _ _ h; cases h); (focus (simp only [go_sem, hNE, hA, hlt, encP, min_ite]; first | done | exact rfl)))
        | ((with_reducible apply t_cond); (focus (simp only [go_sem, hNE, hA, hlt, encP, min_ite]; first | done | exact rfl)))
        | (with_reducible intro hc; with_reducible exact Bool.noConfusion hc)
        | (with_reducible intro hc; have hC := And.intro hC hc))
    rw [hcf, ← hr]
    (first | apply pend rs27 | apply pendN rs27); (focus (simp only [go_sem, e0_2, e0_3, h0_6]; first | done | exact rfl)); (focus (simp only [go_sem, e0_2, e0_3, h0_6]; first | done | exact rfl))
end Go.Proofs.Ytloecggdboingaa
namespace Go.Proofs.Ytloecggdboingaa
open Go.RowKit Go.Proofs
set_option linter.unusedVariables false
set_option linter.unusedSimpArgs false
attribute [local irreducible] PPure

theorem e_89' : flatEq Try.prog 89 = some [.s, .i .i64, .i .i64, .i .i64] := by kernel_rfl
def actEq (x y : Act) : Bool := x.kw == y.kw && (decide (x.f.t = y.f.t) && (decide (x.f.k = y.f.k) && decide (x.f.r = y.f.r)))
def sameF : List Act → List Act → Bool
  | x :: a, y :: b => if actEq x y = true then sameF a b else false
  | _, _ => true
theorem p28 (a b : List Act) (hA1 : a.length ≤ 1000) (hB1 : b.length ≤ 1000) : PPure Try.prog 28 [.list .any (a.map encA), .list .any (b.map encA)] (.bool (decide ((a.length : Int) = b.length) && sameF a b)) := by
  (refine ppure_of_T ok28 (by simp only [List.length_cons, List.length_nil]; decide) ?_; refine t_seq ?_)
  by_cases hl : (a.length : Int) = b.length
  · (have hNE := True.intro; have hC := True.intro; repeat' first
        | with_reducible refine k_seq ?_
        | with_reducible refine t_seq ?_
        | with_reducible refine t_reg ?_
        | with_reducible refine t_nil ?_
        | with_reducible refine t_skip ?_
        | with_reducible refine t_block ?_
        | ((with_reducible apply te_val); exact rfl; (intro _ _ _ h; cases h); (focus (simp only [go_sem, hNE, hl]; first | done | exact rfl)))
        | ((with_reducible apply t_cond); (focus (simp only [go_sem, hNE, hl]; first | done | exact rfl)))
        | (with_reducible intro hc; with_reducible exact Bool.noConfusion hc)
        | (with_reducible intro hc; have hC := And.intro hC hc))
    refine t_loopE (fun (k0 : Nat) (E0 : Nat → PV) (H0 : Hp) => ∃ (i : Nat), i + k0 = a.length ∧ sameF (a.drop i) (b.drop i) = sameF a b ∧ E0 5 = .int .i64 i) (a.length) ⟨0, (by first | omega | rfl | assumption | (simp only [go_sem, hl, cast0]; first | done | rfl | assumption | omega)), (by first | omega | rfl | assumption | (simp only [go_sem, hl, cast0]; first | done | rfl | assumption | omega)), (by simp only [go_sem, hl, cast0]; first | done | rfl)⟩ ?_
    rintro k0 E0 H0 hfr0 ⟨i, hk, hr, h0_5⟩
    have e0_0 := hfr0 0 rfl; have e0_1 := hfr0 1 rfl
    simp only [go_sem, hl, cast0] at e0_0 e0_1
    clear hfr0
    by_cases hi : i < a.length
    · obtain ⟨x, hx, hdr⟩ := at_list hi
      obtain ⟨y, hy, hdr2⟩ := at_list (xs := b) (i := i) (by omega)
      have hlt := lt_int hi
      have hltb : (i : Int) < (b.length : Int) := by omega
      have hw := wrap_next hi hA1
      rw [hdr, hdr2, sameF] at hr
      (have hA := And.intro e0_0 (And.intro e0_1 (h0_5)); have hNE := True.intro; have hC := True.intro; repeat' first
          | ((with_reducible apply te_drwA); (focus (simp only [effFlA, List.map_cons, List.map_nil]; exact rfl)); (focus decide +kernel))
          | with_reducible refine k_seq ?_
          | with_reducible refine t_seq ?_
          | with_reducible refine t_reg ?_
          | with_reducible refine t_nil ?_
          | with_reducible refine t_skip ?_
          | with_reducible refine t_ret ?_
          | with_reducible refine k_seq_ret ?_
          | with_reducible refine k_blk_ret ?_
          | with_reducible refine k_blk ?_
          | with_reducible refine k_invE_ret ?_
          | with_reducible refine t_block ?_
          | with_reducible refine m_nil ?_
          | ((with_reducible apply te_val); exact rfl; (intro _ _ _ h; cases h); (focus (simp only [go_sem, hNE, hA, hlt, hltb, hx, hy, encA, e_89', cellsEq]; first | done | exact rfl)))
          | ((with_reducible apply me_val); exact rfl; (intro _ _ _ h; cases h); (focus (simp only [go_sem, hNE, hA, hlt, hltb, hx, hy, encA, e_89', cellsEq]; first | done | exact rfl)))
          | ((with_reducible apply t_cond); (focus (simp only [go_sem, hNE, hA, hlt, hltb, hx, hy, encA, e_89', cellsEq]; first | done | exact rfl)))
          | (with_reducible intro hc; with_reducible exact Bool.noConfusion hc)
          | (with_reducible intro hc; have hC := And.intro hC hc))
      · have e : actEq x y = false := by
          have := hC.2
          rw [← Bool.not_eq_true']
          exact this
        rw [if_neg (by rw [e]; decide)] at hr
        rw [← hr]
        (first | apply pend rs28 | apply pendN rs28); (focus (simp only [go_sem, e0_0, e0_1, h0_5, hl]; first | done | exact rfl)); (focus (simp only [go_sem, e0_0, e0_1, h0_5, hl]; first | done | exact rfl))
      · have e : actEq x y = true := by
          have := hC.2
          rw [Bool.not_eq_false'] at this
          exact this
        rw [if_pos e] at hr
        refine k_invE (k0 - 1) (by omega) ⟨i + 1, (by omega), ?_, (by simp only [go_sem, e0_0, e0_1, h0_5, hw]; first | done | rfl)⟩
        exact hr
    · have hlt : ((i : Int) < (b.length : Int)) = False := eq_false (by omega)
      have hlt' := nlt_int hi
      rw [at_end hi, sameF] at hr
      · (have hA := And.intro e0_0 (And.intro e0_1 (h0_5)); have hNE := True.intro; have hC := True.intro; repeat' first
            | with_reducible refine k_seq ?_
            | with_reducible refine t_seq ?_
            | with_reducible refine t_reg ?_
            | with_reducible refine t_nil ?_
            | with_reducible refine t_ret ?_
            | with_reducible refine t_exit ?_
            | with_reducible refine k_seq_exit ?_
            | with_reducible refine k_blk_exit ?_
            | with_reducible refine k_invE_exit ?_
            | ((with_reducible apply te_val); exact rfl; (intro _ _ _ h; cases h); (focus (simp only [go_sem, hNE, hA, hlt, hlt', hl]; first | done | exact rfl)))
            | ((with_reducible apply t_cond); (focus (simp only [go_sem, hNE, hA, hlt, hlt', hl]; first | done | exact rfl)))
            | (with_reducible intro hc; with_reducible exact Bool.noConfusion hc)
            | (with_reducible intro hc; have hC := And.intro hC hc))
        rw [← hr]
        (first | apply pend rs28 | apply pendN rs28); (focus (simp only [go_sem, e0_0, e0_1, h0_5, hl]; first | done | exact rfl)); (focus (simp only [go_sem, e0_0, e0_1, h0_5, hl]; first | done | exact rfl))
      · intro _ _ _ _ h; cases h
  · (have hNE := True.intro; have hC := True.intro; repeat' first
        | with_reducible refine k_seq ?_
        | with_reducible refine t_seq ?_
        | with_reducible refine t_reg ?_
        | with_reducible refine t_nil ?_
        | with_reducible refine t_ret ?_
        | with_reducible refine k_seq_ret ?_
        | ((with_reducible apply te_val); exact rfl; (intro _ _ _ h; cases h); (focus (simp only [go_sem, hNE, hl]; first | done | exact rfl)))
        | ((with_reducible apply t_cond); (focus (simp only [go_sem, hNE, hl]; first | done | exact rfl)))
        | (with_reducible intro hc; with_reducible exact Bool.noConfusion hc)
        | (with_reducible intro hc; have hC := And.intro hC hc))
    (first | apply pend rs28 | apply pendN rs28); (focus (simp only [go_sem, hl]; first | done | exact rfl)); (focus (simp only [go_sem, hl]; first | done | exact rfl))

/-- The partner of procedure i at place k behind it. -/
def pairK (g : Prc → Prc → Bool) (l : List Prc) (i : Nat) (a : Prc) (k : Nat) : Option (Int × Int) :=
  match l[i + 1 + k]? with
  | some b => if g a b = true then some ((i : Int), ((i + 1 + k : Nat) : Int)) else none
  | none => none
def pairR (g : Prc → Prc → Bool) (l : List Prc) (i : Nat) : Option (Int × Int) :=
  match l[i]? with
  | some a => srch (pairK g l i a) (l.length - (i + 1)) 0
  | none => none
def pairF (g : Prc → Prc → Bool) (l : List Prc) : Option (Int × Int) := srch (pairR g l) l.length 0
def firstPair (g : Prc → Prc → Bool) (l : List Prc) : Int × Int × Int :=
  if itfErr l = 0 then match pairF g l with
    | some (i, k) => (i, k, 0)
    | none => (0, 0, 12)
  else (0, 0, itfErr l)
def enc3 (r : Int × Int × Int) : PV := .tup [.int .i64 r.1, .int .i64 r.2.1, .int .i64 r.2.2]
set_option maxHeartbeats 2000000 in
theorem p86 (l : List Prc) (f : Nat) (g : Prc → Prc → Bool) (h : Small l) (hg : ∀ a b, a ∈ l → b ∈ l → PPure Try.prog f [encP a, encP b] (.bool (g a b))) :
    PPure Try.prog 86 [.list .any (l.map encP), .fn f []] (enc3 (firstPair g l)) := by
  have hl := h.1
  (refine ppure_of_T ok86 (by simp only [List.length_cons, List.length_nil]; decide) ?_; refine t_seq ?_)
  (have hNE := True.intro; have hC := True.intro; repeat' first
      | with_reducible refine k_seq ?_
      | with_reducible refine t_seq ?_
      | with_reducible refine t_reg ?_
      | with_reducible refine t_nil ?_
      | with_reducible refine t_skip ?_
      | with_reducible refine t_ret ?_
      | with_reducible refine k_seq_ret ?_
      | with_reducible refine t_block ?_
      | ((with_reducible apply te_val); exact rfl; (intro _ _ _ h; cases h); (focus (simp only [go_sem, hNE]; first | done | exact rfl)))
      | ((with_reducible apply te_callS); (focus (simp only [go_sem, hNE]; first | done | exact rfl)); (focus (simp only [go_sem, hNE]; first | done | exact rfl)); (focus (simp only [go_sem, hNE]; first | done | exact rfl)); (first | exact p54 l h))
      | ((with_reducible apply t_cond); (focus (simp only [go_sem, hNE]; first | done | exact rfl)))
      | (with_reducible intro hc; have hC := And.intro hC hc))
  · have e : ¬ itfErr l = 0 := by simpa using hC
    rw [firstPair, if_neg e]
    (first | apply pend rs86 | apply pendN rs86); (focus (simp only [go_sem, enc3]; first | done | exact rfl)); (focus (simp only [go_sem, enc3]; first | done | exact rfl))
  · have e : itfErr l = 0 := by simpa using hC
    rw [firstPair, if_pos e]
    refine t_loopE (fun (k0 : Nat) (E0 : Nat → PV) (H0 : Hp) => ∃ (i : Nat), i + k0 = l.length ∧ srch (pairR g l) k0 i = pairF g l ∧ E0 19 = .int .i64 i) (l.length) ⟨0, (by first | omega | rfl | assumption | (simp only [go_sem]; first | done | rfl | assumption | omega)), (by first | omega | rfl | assumption | (simp only [go_sem]; first | done | rfl | assumption | omega)), (by simp only [go_sem]; first | done | rfl)⟩ ?_
    rintro k0 E0 H0 hfr0 ⟨i, hk, hr, h0_19⟩
    have e0_0 := hfr0 0 rfl; have e0_1 := hfr0 1 rfl; have e0_17 := hfr0 17 rfl; have e0_18 := hfr0 18 rfl
    simp only [go_sem] at e0_0 e0_1 e0_17 e0_18
    clear hfr0
    by_cases hi : i < l.length
    · obtain ⟨a, hx, hdr⟩ := at_list hi
      have hlt := lt_int hi
      have hw := wrap_next hi hl
      have hle := Int.le_of_lt hlt
      have hi1 : (i : Int) + 1 ≤ (l.length : Int) := by omega
      obtain ⟨k0', hk0⟩ : ∃ k', k0 = k' + 1 := ⟨k0 - 1, by omega⟩
      have hk1 : k0 - 1 = k0' := by omega
      rw [hk0, srch] at hr
      have hR : pairR g l i = srch (pairK g l i a) (l.length - (i + 1)) 0 := by simp only [pairR, hx]
      have hw' : ((i + 1 : Nat) : Int) ≤ (l.length : Int) := by omega
      have hdl : (l.drop (i + 1)).length = l.length - (i + 1) := List.length_drop
      obtain ⟨M, hM⟩ : ∃ m, l.drop (i + 1) = m := ⟨_, rfl⟩
      rw [hM] at hdl
      (have hA := And.intro e0_0 (And.intro e0_1 (And.intro e0_17 (And.intro e0_18 (h0_19)))); have hNE := True.intro; have hC := True.intro; repeat' first
          | with_reducible refine k_seq ?_
          | with_reducible refine t_seq ?_
          | with_reducible refine t_reg ?_
          | with_reducible refine t_nil ?_
          | with_reducible refine t_skip ?_
          | with_reducible refine t_block ?_
          | ((with_reducible apply te_val); exact rfl; (intro _ _ _ h; cases h); (focus (simp only [go_sem, hNE, hA, hlt, hle, hx, hw, hw', encP, Int.le_refl, hM]; first | done | exact rfl)))
          | ((with_reducible apply te_alloc); (focus (simp only [go_sem, hNE, hA, hlt, hle, hx, hw, hw', encP, Int.le_refl, hM]; first | done | exact rfl)); exact rfl; exact rfl; (intro la ha hn1; have hNE := And.intro hNE hn1))
          | ((with_reducible apply te_store); (focus (simp only [go_sem, hNE, hA, hlt, hle, hx, hw, hw', encP, Int.le_refl, hM]; first | done | exact rfl)); (focus (simp only [go_sem, hNE, hA, hlt, hle, hx, hw, hw', encP, Int.le_refl, hM]; first | done | exact rfl)); (focus (simp only [go_sem, hNE, hA, hlt, hle, hx, hw, hw', encP, Int.le_refl, hM]; first | done | exact rfl)); (focus (simp only [go_sem, hNE, hA, hlt, hle, hx, hw, hw', encP, Int.le_refl, hM]; first | done | exact rfl)); (focus (simp only [go_sem, hNE, hA, hlt, hle, hx, hw, hw', encP, Int.le_refl, hM]; first | done | exact rfl)); (focus (simp only [go_sem, hNE, hA, hlt, hle, hx, hw, hw', encP, Int.le_refl, hM]; first | done | exact rfl)))
          | ((with_reducible apply t_cond); (focus (simp only [go_sem, hNE, hA, hlt, hle, hx, hw, hw', encP, Int.le_refl, hM]; first | done | exact rfl)))
          | (with_reducible intro hc; with_reducible exact Bool.noConfusion hc)
          | (with_reducible intro hc; have hC := And.intro hC hc))
      refine t_loopE (fun (k2 : Nat) (E2 : Nat → PV) (H2 : Hp) => ∃ (k : Nat), k + k2 = M.length ∧ srch (pairK g l i a) k2 k = pairR g l i ∧ H2 la = some (.row true 2 [encP a]) ∧ E2 29 = .int .i64 k) (M.length) ⟨0, (by first | omega | rfl | assumption | (simp only [go_sem, e0_0, e0_1, e0_17, e0_18, h0_19, hlt, encP, hle, hx, hw, hw', Int.le_refl, hM]; first | done | rfl | assumption | omega)), ?_, (by first | omega | rfl | assumption | (simp only [go_sem, e0_0, e0_1, e0_17, e0_18, h0_19, hlt, encP, hle, hx, hw, hw', Int.le_refl, hM]; first | done | rfl | assumption | omega)), (by simp only [go_sem, e0_0, e0_1, e0_17, e0_18, h0_19, hlt, encP, hle, hx, hw, hw', Int.le_refl, hM]; first | done | rfl)⟩ ?_
      · rw [hdl, ← hR]
      rintro k2 E2 H2 hfr2 ⟨k, hk2, hr2, hz2, h2_29⟩
      have e2_0 := hfr2 0 rfl; have e2_1 := hfr2 1 rfl; have e2_8 := hfr2 8 rfl; have e2_9 := hfr2 9 rfl; have e2_17 := hfr2 17 rfl; have e2_18 := hfr2 18 rfl; have e2_19 := hfr2 19 rfl; have e2_27 := hfr2 27 rfl; have e2_28 := hfr2 28 rfl
      simp only [go_sem, e0_0, e0_1, e0_17, e0_18, h0_19, hlt, encP, hle, hx, hw, hw', Int.le_refl, hM] at e2_0 e2_1 e2_8 e2_9 e2_17 e2_18 e2_19 e2_27 e2_28
      clear hfr2
      by_cases hj : k < M.length
      · obtain ⟨b, hy, _⟩ := at_list hj
        have hlt2 := lt_int hj
        have hle2 := Int.le_of_lt hlt2
        have hlM : M.length ≤ 1000 := by omega
        have hw2 := wrap_next hj hlM
        have hyl : l[i + 1 + k]? = some b := by rw [← hM, List.getElem?_drop] at hy; exact hy
        have hgab := hg a b (List.mem_of_getElem? hx) (List.mem_of_getElem? hyl)
        simp only [encP] at hgab
        have hw3 : IntKind.i64.wrap (((i + 1 : Nat) : Int) + (k : Int)) = ((i + 1 + k : Nat) : Int) := by rw [IntKind.wrap_i64]; omega
        obtain ⟨k2', hk2'⟩ : ∃ k', k2 = k' + 1 := ⟨k2 - 1, by omega⟩
        have hk3 : k2 - 1 = k2' := by omega
        rw [hk2', srch] at hr2
        (have hA := And.intro e0_0 (And.intro e0_1 (And.intro e0_17 (And.intro e0_18 (And.intro h0_19 (And.intro e2_0 (And.intro e2_1 (And.intro e2_8 (And.intro e2_9 (And.intro e2_17 (And.intro e2_18 (And.intro e2_19 (And.intro e2_27 (And.intro e2_28 (And.intro h2_29 (hz2))))))))))))))); have hNE := True.intro; have hC := True.intro; repeat' first
            | with_reducible refine k_seq ?_
            | with_reducible refine t_seq ?_
            | with_reducible refine t_reg ?_
            | with_reducible refine t_nil ?_
            | with_reducible refine t_skip ?_
            | with_reducible refine t_ret ?_
            | with_reducible refine k_seq_ret ?_
            | with_reducible refine k_blk_ret ?_
            | with_reducible refine k_blk ?_
            | with_reducible refine k_invE_ret ?_
            | with_reducible refine t_block ?_
            | ((with_reducible apply te_val); exact rfl; (intro _ _ _ h; cases h); (focus (simp only [go_sem, hNE, hA, hlt2, hle2, hy, hw, hw3, encP]; first | done | exact rfl)))
            | ((with_reducible apply te_callS); (focus (simp only [go_sem, hNE, hA, hlt2, hle2, hy, hw, hw3, encP]; first | done | exact rfl)); (focus (simp only [go_sem, hNE, hA, hlt2, hle2, hy, hw, hw3, encP]; first | done | exact rfl)); (focus (simp only [go_sem, hNE, hA, hlt2, hle2, hy, hw, hw3, encP]; first | done | exact rfl)); (first | exact hgab))
            | ((with_reducible apply te_alloc); (focus (simp only [go_sem, hNE, hA, hlt2, hle2, hy, hw, hw3, encP]; first | done | exact rfl)); exact rfl; exact rfl; (intro la ha hn1; have hNE := And.intro hNE hn1))
            | ((with_reducible apply te_store); (focus (simp only [go_sem, hNE, hA, hlt2, hle2, hy, hw, hw3, encP]; first | done | exact rfl)); (focus (simp only [go_sem, hNE, hA, hlt2, hle2, hy, hw, hw3, encP]; first | done | exact rfl)); (focus (simp only [go_sem, hNE, hA, hlt2, hle2, hy, hw, hw3, encP]; first | done | exact rfl)); (focus (simp only [go_sem, hNE, hA, hlt2, hle2, hy, hw, hw3, encP]; first | done | exact rfl)); (focus (simp only [go_sem, hNE, hA, hlt2, hle2, hy, hw, hw3, encP]; first | done | exact rfl)); (focus (simp only [go_sem, hNE, hA, hlt2, hle2, hy, hw, hw3, encP]; first | done | exact rfl)))
            | ((with_reducible apply t_cond); (focus (simp only [go_sem, hNE, hA, hlt2, hle2, hy, hw, hw3, encP]; first | done | exact rfl)))
            | (with_reducible intro hc; with_reducible exact Bool.noConfusion hc)
            | (with_reducible intro hc; have hC := And.intro hC hc))
        · have e2 : pairK g l i a k = some ((i : Int), ((i + 1 + k : Nat) : Int)) := by simp only [pairK, hyl]; rw [if_pos (by simpa using hC.2)]
          rw [e2] at hr2
          simp only at hr2
          rw [← hr2] at hr
          simp only at hr
          rw [← hr]
          (first | apply pend rs86 | apply pendN rs86); (focus (simp only [go_sem, e0_0, e0_1, e0_17, e0_18, h0_19, e2_0, e2_1, e2_8, e2_9, e2_17, e2_18, e2_19, e2_27, e2_28, h2_29, hz2, enc3]; first | done | exact rfl)); (focus (simp only [go_sem, e0_0, e0_1, e0_17, e0_18, h0_19, e2_0, e2_1, e2_8, e2_9, e2_17, e2_18, e2_19, e2_27, e2_28, h2_29, hz2, enc3]; first | done | exact rfl))
        · have e2 : pairK g l i a k = none := by simp only [pairK, hyl]; rw [if_neg (by simpa using hC.2)]
          rw [e2] at hr2
          simp only at hr2
          refine k_invE (k2 - 1) (by omega) ⟨k + 1, (by omega), ?_, (by simp only [go_sem, e0_0, e0_1, e0_17, e0_18, h0_19, e2_0, e2_1, e2_8, e2_9, e2_17, e2_18, e2_19, e2_27, e2_28, h2_29, hz2, hw2, encP, hNE]; first | done | rfl), (by simp only [go_sem, e0_0, e0_1, e0_17, e0_18, h0_19, e2_0, e2_1, e2_8, e2_9, e2_17, e2_18, e2_19, e2_27, e2_28, h2_29, hz2, hw2, encP]; first | done | rfl)⟩
          rw [hk3]; exact hr2
      · have hlt2 := nlt_int hj
        have hz : k2 = 0 := by omega
        rw [hz, srch] at hr2
        rw [← hr2] at hr
        simp only at hr
        (have hA := And.intro e0_0 (And.intro e0_1 (And.intro e0_17 (And.intro e0_18 (And.intro h0_19 (And.intro e2_0 (And.intro e2_1 (And.intro e2_8 (And.intro e2_9 (And.intro e2_17 (And.intro e2_18 (And.intro e2_19 (And.intro e2_27 (And.intro e2_28 (And.intro h2_29 (hz2))))))))))))))); have hNE := True.intro; have hC := True.intro; repeat' first
            | with_reducible refine k_seq ?_
            | with_reducible refine t_seq ?_
            | with_reducible refine t_reg ?_
            | with_reducible refine t_nil ?_
            | with_reducible refine t_exit ?_
            | with_reducible refine k_seq_exit ?_
            | with_reducible refine k_blk_exit ?_
            | with_reducible refine k_blk ?_
            | with_reducible refine k_invE_exit ?_
            | ((with_reducible apply te_val); exact rfl; (intro _ _ _ h; cases h); (focus (simp only [go_sem, hNE, hA, hlt2]; first | done | exact rfl)))
            | ((with_reducible apply t_cond); (focus (simp only [go_sem, hNE, hA, hlt2]; first | done | exact rfl)))
            | (with_reducible intro hc; with_reducible exact Bool.noConfusion hc)
            | (with_reducible intro hc; have hC := And.intro hC hc))
        refine k_invE (k0 - 1) (by omega) ⟨i + 1, (by omega), ?_, (by simp only [go_sem, e0_0, e0_1, e0_17, e0_18, h0_19, e2_0, e2_1, e2_8, e2_9, e2_17, e2_18, e2_19, e2_27, e2_28, h2_29, hz2, hw]; first | done | rfl)⟩
        rw [hk1]; exact hr
    · have hlt := nlt_int hi
      have hz : k0 = 0 := by omega
      rw [hz, srch] at hr
      (have hA := And.intro e0_0 (And.intro e0_1 (And.intro e0_17 (And.intro e0_18 (h0_19)))); have hNE := True.intro; have hC := True.intro; repeat' first
          | with_reducible refine k_seq ?_
          | with_reducible refine t_seq ?_
          | with_reducible refine t_reg ?_
          | with_reducible refine t_nil ?_
          | with_reducible refine t_ret ?_
          | with_reducible refine t_exit ?_
          | with_reducible refine k_seq_exit ?_
          | with_reducible refine k_blk_exit ?_
          | with_reducible refine k_invE_exit ?_
          | ((with_reducible apply te_val); exact rfl; (intro _ _ _ h; cases h); (focus (simp only [go_sem, hNE, hA, hlt]; first | done | exact rfl)))
          | ((with_reducible apply t_cond); (focus (simp only [go_sem, hNE, hA, hlt]; first | done | exact rfl)))
          | (with_reducible intro hc; with_reducible exact Bool.noConfusion hc)
          | (with_reducible intro hc; have hC := And.intro hC hc))
      rw [← hr]
      (first | apply pend rs86 | apply pendN rs86); (focus (simp only [go_sem, e0_0, e0_1, e0_17, e0_18, h0_19, enc3]; first | done | exact rfl)); (focus (simp only [go_sem, e0_0, e0_1, e0_17, e0_18, h0_19, enc3]; first | done | exact rfl))
theorem p87 (a b : Prc) (hA1 : a.ds.length ≤ 900) (hB1 : b.ds.length ≤ 900) : PPure Try.prog 87 [encP a, encP b] (.bool (!(distF a b).isSome)) := by
  have q84 := p84 a b (by omega) (by omega)
  simp only [encP, encS] at q84 ⊢
  (refine ppure_of_T ok87 (by simp only [List.length_cons, List.length_nil]; decide) ?_; refine t_seq ?_)
  (have hNE := True.intro; have hC := True.intro; repeat' first
      | with_reducible refine k_seq ?_
      | with_reducible refine t_seq ?_
      | with_reducible refine t_reg ?_
      | with_reducible refine t_nil ?_
      | with_reducible refine t_ret ?_
      | ((with_reducible apply te_val); exact rfl; (intro _ _ _ h; cases h); (focus (simp only [go_sem, hNE, encP, encS]; first | done | exact rfl)))
      | ((with_reducible apply te_callS); (focus (simp only [go_sem, hNE, encP, encS]; first | done | exact rfl)); (focus (simp only [go_sem, hNE, encP, encS]; first | done | exact rfl)); (focus (simp only [go_sem, hNE, encP, encS]; first | done | exact rfl)); (first | exact q84))
      | ((with_reducible apply te_box); (focus (simp only [go_sem, hNE, encP, encS]; first | done | exact rfl)); exact rfl; (focus (simp only [go_sem, hNE, encP, encS]; first | done | exact rfl)))
      | ((with_reducible apply te_alloc); (focus (simp only [go_sem, hNE, encP, encS]; first | done | exact rfl)); exact rfl; exact rfl; (intro la ha hn1; have hNE := And.intro hNE hn1))
      | ((with_reducible apply te_store); (focus (simp only [go_sem, hNE, encP, encS]; first | done | exact rfl)); (focus (simp only [go_sem, hNE, encP, encS]; first | done | exact rfl)); (focus (simp only [go_sem, hNE, encP, encS]; first | done | exact rfl)); (focus (simp only [go_sem, hNE, encP, encS]; first | done | exact rfl)); (focus (simp only [go_sem, hNE, encP, encS]; first | done | exact rfl)); (focus (simp only [go_sem, hNE, encP, encS]; first | done | exact rfl))))
  (first | apply pend rs87 | apply pendN rs87); (focus (simp only [go_sem]; first | done | exact rfl)); (focus (simp only [go_sem]; first | done | exact rfl))
theorem p88 (a b : Prc) (hA1 : a.ds.length ≤ 900) (hB1 : b.ds.length ≤ 900) : PPure Try.prog 88 [encP a, encP b] (.bool (commonF a b).isSome) := by
  have q := p60 a b hA1 hB1
  simp only [encP] at q ⊢
  (refine ppure_of_T ok88 (by simp only [List.length_cons, List.length_nil]; decide) ?_; refine t_seq ?_)
  (have hNE := True.intro; have hC := True.intro; repeat' first
      | with_reducible refine k_seq ?_
      | with_reducible refine t_seq ?_
      | with_reducible refine t_reg ?_
      | with_reducible refine t_nil ?_
      | with_reducible refine t_ret ?_
      | ((with_reducible apply te_val); exact rfl; (intro _ _ _ h; cases h); (focus (simp only [go_sem, hNE, encP]; first | done | exact rfl)))
      | ((with_reducible apply te_callS); (focus (simp only [go_sem, hNE, encP]; first | done | exact rfl)); (focus (simp only [go_sem, hNE, encP]; first | done | exact rfl)); (focus (simp only [go_sem, hNE, encP]; first | done | exact rfl)); (first | exact q))
      | ((with_reducible apply te_box); (focus (simp only [go_sem, hNE, encP]; first | done | exact rfl)); exact rfl; (focus (simp only [go_sem, hNE, encP]; first | done | exact rfl))))
  (first | apply pend rs88 | apply pendN rs88); (focus (simp only [go_sem]; first | done | exact rfl)); (focus (simp only [go_sem]; first | done | exact rfl))
def Tiny (l : List Prc) : Prop := l.length ≤ 1000 ∧ ∀ p ∈ l, p.ds.length ≤ 900
theorem Tiny.small {l : List Prc} (h : Tiny l) : Small l := ⟨h.1, fun p hp => Nat.le_trans (h.2 p hp) (by decide)⟩
def unruled (l : List Prc) : Int × Int × Int := firstPair (fun a b => !(distF a b).isSome) l
def ambiguous (l : List Prc) : Int × Int × Int := firstPair (fun a b => (commonF a b).isSome) l
theorem p43 (l : List Prc) (h : Tiny l) : PPure Try.prog 43 [.list .any (l.map encP)] (enc3 (unruled l)) := by
  have q := p86 l 87 (fun a b => !(distF a b).isSome) h.small (fun a b ha hb => p87 a b (h.2 a ha) (h.2 b hb))
  rw [enc3] at q
  (refine ppure_of_T ok43 (by simp only [List.length_cons, List.length_nil]; decide) ?_; refine t_seq ?_)
  (have hNE := True.intro; have hC := True.intro; repeat' first
      | with_reducible refine k_seq ?_
      | with_reducible refine t_seq ?_
      | with_reducible refine t_reg ?_
      | with_reducible refine t_nil ?_
      | with_reducible refine t_ret ?_
      | ((with_reducible apply te_val); exact rfl; (intro _ _ _ h; cases h); (focus (simp only [go_sem, hNE]; first | done | exact rfl)))
      | ((with_reducible apply te_callS); (focus (simp only [go_sem, hNE]; first | done | exact rfl)); (focus (simp only [go_sem, hNE]; first | done | exact rfl)); (focus (simp only [go_sem, hNE]; first | done | exact rfl)); (first | exact q)))
  (first | apply pend rs43 | apply pendN rs43); (focus (simp only [go_sem, enc3, unruled]; first | done | exact rfl)); (focus (simp only [go_sem, enc3, unruled]; first | done | exact rfl))
theorem p44 (l : List Prc) (h : Tiny l) : PPure Try.prog 44 [.list .any (l.map encP)] (enc3 (ambiguous l)) := by
  have q := p86 l 88 (fun a b => (commonF a b).isSome) h.small (fun a b ha hb => p88 a b (h.2 a ha) (h.2 b hb))
  rw [enc3] at q
  (refine ppure_of_T ok44 (by simp only [List.length_cons, List.length_nil]; decide) ?_; refine t_seq ?_)
  (have hNE := True.intro; have hC := True.intro; repeat' first
      | with_reducible refine k_seq ?_
      | with_reducible refine t_seq ?_
      | with_reducible refine t_reg ?_
      | with_reducible refine t_nil ?_
      | with_reducible refine t_ret ?_
      | ((with_reducible apply te_val); exact rfl; (intro _ _ _ h; cases h); (focus (simp only [go_sem, hNE]; first | done | exact rfl)))
      | ((with_reducible apply te_callS); (focus (simp only [go_sem, hNE]; first | done | exact rfl)); (focus (simp only [go_sem, hNE]; first | done | exact rfl)); (focus (simp only [go_sem, hNE]; first | done | exact rfl)); (first | exact q)))
  (first | apply pend rs44 | apply pendN rs44); (focus (simp only [go_sem, enc3, ambiguous]; first | done | exact rfl)); (focus (simp only [go_sem, enc3, ambiguous]; first | done | exact rfl))
def refPair (c : Bool) (l : List Prc) : Option (Int × Int) := pairF (fun a b => (c && (commonF a b).isSome) || (!c && !(refDist a b).isSome)) l
theorem p45 (l : List Prc) (c : Bool) (h : Tiny l) : PPure Try.prog 45 [.list .any (l.map encP), .bool c] (.tup [.int .i64 ((refPair c l).getD (0, 0)).1, .int .i64 ((refPair c l).getD (0, 0)).2, .bool (refPair c l).isSome]) := by
  have hl := h.1
  obtain ⟨g, hg⟩ : ∃ g, (fun a b => (c && (commonF a b).isSome) || (!c && !(refDist a b).isSome)) = g := ⟨_, rfl⟩
  rw [show refPair c l = pairF g l by rw [refPair, hg]]
  (refine ppure_of_T ok45 (by simp only [List.length_cons, List.length_nil]; decide) ?_; refine t_seq ?_)
  (have hNE := True.intro; have hC := True.intro; repeat' first
      | with_reducible refine k_seq ?_
      | with_reducible refine t_seq ?_
      | with_reducible refine t_reg ?_
      | with_reducible refine t_nil ?_
      | with_reducible refine t_block ?_
      | ((with_reducible apply te_val); exact rfl; (intro _ _ _ h; cases h); (focus (simp only [go_sem, hNE]; first | done | exact rfl))))
  refine t_loopE (fun (k0 : Nat) (E0 : Nat → PV) (H0 : Hp) => ∃ (i : Nat), i + k0 = l.length ∧ srch (pairR g l) k0 i = pairF g l ∧ E0 7 = .int .i64 i) (l.length) ⟨0, (by first | omega | rfl | assumption | (simp only [go_sem]; first | done | rfl | assumption | omega)), (by first | omega | rfl | assumption | (simp only [go_sem]; first | done | rfl | assumption | omega)), (by simp only [go_sem]; first | done | rfl)⟩ ?_
  rintro k0 E0 H0 hfr0 ⟨i, hk, hr, h0_7⟩
  have e0_0 := hfr0 0 rfl; have e0_1 := hfr0 1 rfl
  simp only [go_sem] at e0_0 e0_1
  clear hfr0
  by_cases hi : i < l.length
  · obtain ⟨a, hx, hdr⟩ := at_list hi
    have hlt := lt_int hi
    have hw := wrap_next hi hl
    have hle := Int.le_of_lt hlt
    obtain ⟨k0', hk0⟩ : ∃ k', k0 = k' + 1 := ⟨k0 - 1, by omega⟩
    have hk1 : k0 - 1 = k0' := by omega
    rw [hk0, srch] at hr
    have hR : pairR g l i = srch (pairK g l i a) (l.length - (i + 1)) 0 := by simp only [pairR, hx]
    (have hA := And.intro e0_0 (And.intro e0_1 (h0_7)); have hNE := True.intro; have hC := True.intro; repeat' first
        | with_reducible refine k_seq ?_
        | with_reducible refine t_seq ?_
        | with_reducible refine t_reg ?_
        | with_reducible refine t_nil ?_
        | with_reducible refine t_skip ?_
        | with_reducible refine t_block ?_
        | ((with_reducible apply te_val); exact rfl; (intro _ _ _ h; cases h); (focus (simp only [go_sem, hNE, hA, hlt, hle, hx, hw, encP]; first | done | exact rfl)))
        | ((with_reducible apply t_cond); (focus (simp only [go_sem, hNE, hA, hlt, hle, hx, hw, encP]; first | done | exact rfl)))
        | (with_reducible intro hc; with_reducible exact Bool.noConfusion hc)
        | (with_reducible intro hc; have hC := And.intro hC hc))
    refine t_loopE (fun (k2 : Nat) (E2 : Nat → PV) (H2 : Hp) => ∃ (k : Nat), i + 1 + k + k2 = l.length ∧ srch (pairK g l i a) k2 k = pairR g l i ∧ E2 8 = .int .i64 ((i + 1 + k : Nat) : Int)) (l.length - (i + 1)) ⟨0, (by first | omega | rfl | assumption | (simp only [go_sem, e0_0, e0_1, h0_7, hlt, hx, hw, hR, Nat.add_zero]; first | done | rfl | assumption | omega)), (by first | omega | rfl | assumption | (simp only [go_sem, e0_0, e0_1, h0_7, hlt, hx, hw, hR, Nat.add_zero]; first | done | rfl | assumption | omega)), (by simp only [go_sem, e0_0, e0_1, h0_7, hlt, hx, hw, hR, Nat.add_zero]; first | done | rfl)⟩ ?_
    rintro k2 E2 H2 hfr2 ⟨k, hk2, hr2, h2_8⟩
    have e2_0 := hfr2 0 rfl; have e2_1 := hfr2 1 rfl; have e2_7 := hfr2 7 rfl
    simp only [go_sem, e0_0, e0_1, h0_7, hlt, hx, hw, hR, Nat.add_zero] at e2_0 e2_1 e2_7
    clear hfr2
    by_cases hj : i + 1 + k < l.length
    · obtain ⟨b, hy, _⟩ := at_list hj
      have hlt2 : ((i + 1 + k : Nat) : Int) < (l.length : Int) := by omega
      have hw2 : IntKind.i64.wrap (((i + 1 + k : Nat) : Int) + 1) = ((i + 1 + (k + 1) : Nat) : Int) := by rw [IntKind.wrap_i64]; omega
      have q42 := p42 a b (Nat.le_trans (h.2 a (List.mem_of_getElem? hx)) (by decide)) (Nat.le_trans (h.2 b (List.mem_of_getElem? hy)) (by decide))
      have q27 := p27 a b (h.2 a (List.mem_of_getElem? hx)) (h.2 b (List.mem_of_getElem? hy))
      simp only [encP, encS] at q42 q27
      obtain ⟨k2', hk2'⟩ : ∃ k', k2 = k' + 1 := ⟨k2 - 1, by omega⟩
      have hk3 : k2 - 1 = k2' := by omega
      rw [hk2', srch] at hr2
      (have hA := And.intro e0_0 (And.intro e0_1 (And.intro h0_7 (And.intro e2_0 (And.intro e2_1 (And.intro e2_7 (h2_8)))))); have hNE := True.intro; have hC := True.intro; repeat' first
          | ((with_reducible apply te_drwA); (focus (simp only [effFlA, List.map_cons, List.map_nil]; exact rfl)); (focus decide +kernel))
          | with_reducible refine k_seq ?_
          | with_reducible refine t_seq ?_
          | with_reducible refine t_reg ?_
          | with_reducible refine t_nil ?_
          | with_reducible refine t_skip ?_
          | with_reducible refine t_ret ?_
          | with_reducible refine k_seq_ret ?_
          | with_reducible refine k_blk_ret ?_
          | with_reducible refine k_blk ?_
          | with_reducible refine k_invE_ret ?_
          | with_reducible refine t_block ?_
          | with_reducible refine m_nil ?_
          | ((with_reducible apply te_val); exact rfl; (intro _ _ _ h; cases h); (focus (simp only [go_sem, hNE, hA, hlt, hle, hx, hlt2, hy, hw, encP, encS]; first | done | exact rfl)))
          | ((with_reducible apply te_gval); exact rfl; (focus (simp only [go_sem, hNE, hA, hlt, hle, hx, hlt2, hy, hw, encP, encS]; first | done | exact rfl)); exact rfl; (intro _ _ _ h; cases h); (focus (intro hG; simp only [go_sem, hNE, hA, hlt, hle, hx, hlt2, hy, hw, encP, encS, hG]; first | done | exact rfl)))
          | ((with_reducible apply te_gval2); exact rfl; (focus (simp only [go_sem, hNE, hA, hlt, hle, hx, hlt2, hy, hw, encP, encS]; first | done | exact rfl)); exact rfl; (intro _ _ _ h; cases h); (focus (intro hG hG2; simp only [go_sem, hNE, hA, hlt, hle, hx, hlt2, hy, hw, encP, encS, hG, hG2]; first | done | exact rfl)))
          | ((with_reducible apply me_val); exact rfl; (intro _ _ _ h; cases h); (focus (simp only [go_sem, hNE, hA, hlt, hle, hx, hlt2, hy, hw, encP, encS]; first | done | exact rfl)))
          | ((with_reducible apply me_callS); (focus (simp only [go_sem, hNE, hA, hlt, hle, hx, hlt2, hy, hw, encP, encS]; first | done | exact rfl)); (focus (simp only [go_sem, hNE, hA, hlt, hle, hx, hlt2, hy, hw, encP, encS]; first | done | exact rfl)); (focus (simp only [go_sem, hNE, hA, hlt, hle, hx, hlt2, hy, hw, encP, encS]; first | done | exact rfl)); (first | exact q42 | exact q27))
          | ((with_reducible apply me_alloc); (focus (simp only [go_sem, hNE, hA, hlt, hle, hx, hlt2, hy, hw, encP, encS]; first | done | exact rfl)); exact rfl; exact rfl; (intro la ha hn1; have hNE := And.intro hNE hn1))
          | ((with_reducible apply me_store); (focus (simp only [go_sem, hNE, hA, hlt, hle, hx, hlt2, hy, hw, encP, encS]; first | done | exact rfl)); (focus (simp only [go_sem, hNE, hA, hlt, hle, hx, hlt2, hy, hw, encP, encS]; first | done | exact rfl)); (focus (simp only [go_sem, hNE, hA, hlt, hle, hx, hlt2, hy, hw, encP, encS]; first | done | exact rfl)); (focus (simp only [go_sem, hNE, hA, hlt, hle, hx, hlt2, hy, hw, encP, encS]; first | done | exact rfl)); (focus (simp only [go_sem, hNE, hA, hlt, hle, hx, hlt2, hy, hw, encP, encS]; first | done | exact rfl)); (focus (simp only [go_sem, hNE, hA, hlt, hle, hx, hlt2, hy, hw, encP, encS]; first | done | exact rfl)))
          | ((with_reducible apply t_cond); (focus (simp only [go_sem, hNE, hA, hlt, hle, hx, hlt2, hy, hw, encP, encS]; first | done | exact rfl)))
          | (with_reducible intro hc; with_reducible exact Bool.noConfusion hc)
          | (with_reducible intro hc; have hC := And.intro hC hc))
      · have e2 : pairK g l i a k = some ((i : Int), ((i + 1 + k : Nat) : Int)) := by simp only [pairK, hy]; rw [if_pos (by rw [← hg]; exact hC.2)]
        rw [e2] at hr2
        simp only at hr2
        rw [← hr2] at hr
        simp only at hr
        rw [← hr]
        (first | apply pend rs45 | apply pendN rs45); (focus (simp only [go_sem, e0_0, e0_1, h0_7, e2_0, e2_1, e2_7, h2_8]; first | done | exact rfl)); (focus (simp only [go_sem, e0_0, e0_1, h0_7, e2_0, e2_1, e2_7, h2_8]; first | done | exact rfl))
      · have e2 : pairK g l i a k = none := by simp only [pairK, hy]; rw [if_neg (by rw [← hg]; simp only [hC]; decide)]
        rw [e2] at hr2
        simp only at hr2
        refine k_invE (k2 - 1) (by omega) ⟨k + 1, (by omega), ?_, (by simp only [go_sem, e0_0, e0_1, h0_7, e2_0, e2_1, e2_7, h2_8, hw2, encP]; first | done | rfl)⟩
        rw [hk3]; exact hr2
    · have hlt2 : (((i + 1 + k : Nat) : Int) < (l.length : Int)) = False := eq_false (by omega)
      have hz : k2 = 0 := by omega
      rw [hz, srch] at hr2
      rw [← hr2] at hr
      simp only at hr
      (have hA := And.intro e0_0 (And.intro e0_1 (And.intro h0_7 (And.intro e2_0 (And.intro e2_1 (And.intro e2_7 (h2_8)))))); have hNE := True.intro; have hC := True.intro; repeat' first
          | with_reducible refine k_seq ?_
          | with_reducible refine t_seq ?_
          | with_reducible refine t_reg ?_
          | with_reducible refine t_nil ?_
          | with_reducible refine t_exit ?_
          | with_reducible refine k_seq_exit ?_
          | with_reducible refine k_blk_exit ?_
          | with_reducible refine k_blk ?_
          | with_reducible refine k_invE_exit ?_
          | ((with_reducible apply te_val); exact rfl; (intro _ _ _ h; cases h); (focus (simp only [go_sem, hNE, hA, hlt2]; first | done | exact rfl)))
          | ((with_reducible apply t_cond); (focus (simp only [go_sem, hNE, hA, hlt2]; first | done | exact rfl)))
          | (with_reducible intro hc; with_reducible exact Bool.noConfusion hc)
          | (with_reducible intro hc; have hC := And.intro hC hc))
      refine k_invE (k0 - 1) (by omega) ⟨i + 1, (by omega), ?_, (by simp only [go_sem, e0_0, e0_1, h0_7, e2_0, e2_1, e2_7, h2_8, hw]; first | done | rfl)⟩
      rw [hk1]; exact hr
  · have hlt := nlt_int hi
    have hz : k0 = 0 := by omega
    rw [hz, srch] at hr
    (have hA := And.intro e0_0 (And.intro e0_1 (h0_7)); have hNE := True.intro; have hC := True.intro; repeat' first
        | with_reducible refine k_seq ?_
        | with_reducible refine t_seq ?_
        | with_reducible refine t_reg ?_
        | with_reducible refine t_nil ?_
        | with_reducible refine t_ret ?_
        | with_reducible refine t_exit ?_
        | with_reducible refine k_seq_exit ?_
        | with_reducible refine k_blk_exit ?_
        | with_reducible refine k_invE_exit ?_
        | ((with_reducible apply te_val); exact rfl; (intro _ _ _ h; cases h); (focus (simp only [go_sem, hNE, hA, hlt]; first | done | exact rfl)))
        | ((with_reducible apply t_cond); (focus (simp only [go_sem, hNE, hA, hlt]; first | done | exact rfl)))
        | (with_reducible intro hc; with_reducible exact Bool.noConfusion hc)
        | (with_reducible intro hc; have hC := And.intro hC hc))
    rw [← hr]
    (first | apply pend rs45 | apply pendN rs45); (focus (simp only [go_sem, e0_0, e0_1, h0_7]; first | done | exact rfl)); (focus (simp only [go_sem, e0_0, e0_1, h0_7]; first | done | exact rfl))
end Go.Proofs.Ytloecggdboingaa
namespace Go.Proofs.Ytloecggdboingaa
open Go.RowKit Go.Proofs
set_option linter.unusedVariables false
set_option linter.unusedSimpArgs false
attribute [local irreducible] PPure

def argD (nm : List UInt8) (k r : Int) : Dum := ⟨nm, ⟨k, 0, r⟩, false, false⟩
theorem p52 (nm : List UInt8) (k r : Int) : PPure Try.prog 52 [.str nm, .int .i64 k, .int .i64 r] (encD (argD nm k r)) := by
  (refine ppure_of_T ok52 (by simp only [List.length_cons, List.length_nil]; decide) ?_; refine t_seq ?_)
  (have hNE := True.intro; have hC := True.intro; repeat' first
      | with_reducible refine k_seq ?_
      | with_reducible refine t_seq ?_
      | with_reducible refine t_reg ?_
      | with_reducible refine t_nil ?_
      | with_reducible refine t_ret ?_
      | ((with_reducible apply te_val); exact rfl; (intro _ _ _ h; cases h); (focus (simp only [go_sem, hNE]; first | done | exact rfl)))
      | ((with_reducible apply te_alloc); (focus (simp only [go_sem, hNE]; first | done | exact rfl)); exact rfl; exact rfl; (intro la ha hn1; have hNE := And.intro hNE hn1))
      | ((with_reducible apply te_store); (focus (simp only [go_sem, hNE]; first | done | exact rfl)); (focus (simp only [go_sem, hNE]; first | done | exact rfl)); (focus (simp only [go_sem, hNE]; first | done | exact rfl)); (focus (simp only [go_sem, hNE]; first | done | exact rfl)); (focus (simp only [go_sem, hNE]; first | done | exact rfl)); (focus (simp only [go_sem, hNE]; first | done | exact rfl))))
  (first | apply pend rs52 | apply pendN rs52); (focus (simp only [go_sem, encD, argD]; first | done | exact rfl)); (focus (simp only [go_sem, encD, argD]; first | done | exact rfl))
theorem p51 (nm : List UInt8) (ds : List Dum) : PPure Try.prog 51 [.str nm, .list .any (ds.map encD)] (encP ⟨nm, ds⟩) := by
  (refine ppure_of_T ok51 (by simp only [List.length_cons, List.length_nil]; decide) ?_; refine t_seq ?_)
  (have hNE := True.intro; have hC := True.intro; repeat' first
      | with_reducible refine k_seq ?_
      | with_reducible refine t_seq ?_
      | with_reducible refine t_reg ?_
      | with_reducible refine t_nil ?_
      | with_reducible refine t_ret ?_
      | ((with_reducible apply te_val); exact rfl; (intro _ _ _ h; cases h); (focus (simp only [go_sem, hNE]; first | done | exact rfl)))
      | ((with_reducible apply te_alloc); (focus (simp only [go_sem, hNE]; first | done | exact rfl)); exact rfl; exact rfl; (intro la ha hn1; have hNE := And.intro hNE hn1))
      | ((with_reducible apply te_store); (focus (simp only [go_sem, hNE]; first | done | exact rfl)); (focus (simp only [go_sem, hNE]; first | done | exact rfl)); (focus (simp only [go_sem, hNE]; first | done | exact rfl)); (focus (simp only [go_sem, hNE]; first | done | exact rfl)); (focus (simp only [go_sem, hNE]; first | done | exact rfl)); (focus (simp only [go_sem, hNE]; first | done | exact rfl))))
  (first | apply pend rs51 | apply pendN rs51); (focus (simp only [go_sem, encP, clDs, nmD]; first | done | exact rfl)); (focus (simp only [go_sem, encP, clDs, nmD]; first | done | exact rfl))
def exF : Prc := ⟨[70], [argD [88] 0 0]⟩
def exG : Prc := ⟨[71], [argD [88] 1 0]⟩
def exS : Prc := ⟨[70], [argD [73] 0 0, argD [82] 1 0]⟩
def exT : Prc := ⟨[71], [argD [82] 1 0, argD [73] 0 0]⟩
def exU : Prc := ⟨[71], [argD [81] 1 0, argD [80] 0 0]⟩
def exC : List Act := [⟨[], ⟨1, 0, 0⟩⟩]
def exW : List Act := [⟨[73], ⟨0, 0, 0⟩⟩, ⟨[82], ⟨1, 0, 0⟩⟩]
theorem p49 : PPure Try.prog 49 [] (.list .any [encP exF, encP exG]) := by
  have q1 := p51 [70] [argD [88] 0 0]
  have q2 := p51 [71] [argD [88] 1 0]
  (refine ppure_of_T ok49 (by simp only [List.length_cons, List.length_nil]; decide) ?_; refine t_seq ?_)
  (have hNE := True.intro; have hC := True.intro; repeat' first
      | with_reducible refine k_seq ?_
      | with_reducible refine t_seq ?_
      | with_reducible refine t_reg ?_
      | with_reducible refine t_nil ?_
      | with_reducible refine t_ret ?_
      | ((with_reducible apply te_val); exact rfl; (intro _ _ _ h; cases h); (focus (simp only [go_sem, hNE, encD, argD, encP]; first | done | exact rfl)))
      | ((with_reducible apply te_callS); (focus (simp only [go_sem, hNE, encD, argD, encP]; first | done | exact rfl)); (focus (simp only [go_sem, hNE, encD, argD, encP]; first | done | exact rfl)); (focus (simp only [go_sem, hNE, encD, argD, encP]; first | done | exact rfl)); (first | exact p52 _ _ _ | exact q1 | exact q2)))
  (first | apply pend rs49 | apply pendN rs49); (focus (simp only [go_sem, encP, exF, exG, argD, encD]; first | done | exact rfl)); (focus (simp only [go_sem, encP, exF, exG, argD, encD]; first | done | exact rfl))
theorem p50 : PPure Try.prog 50 [] (.list .any [encP exS, encP exT]) := by
  have q1 := p51 [70] [argD [73] 0 0, argD [82] 1 0]
  have q2 := p51 [71] [argD [82] 1 0, argD [73] 0 0]
  (refine ppure_of_T ok50 (by simp only [List.length_cons, List.length_nil]; decide) ?_; refine t_seq ?_)
  (have hNE := True.intro; have hC := True.intro; repeat' first
      | with_reducible refine k_seq ?_
      | with_reducible refine t_seq ?_
      | with_reducible refine t_reg ?_
      | with_reducible refine t_nil ?_
      | with_reducible refine t_ret ?_
      | ((with_reducible apply te_val); exact rfl; (intro _ _ _ h; cases h); (focus (simp only [go_sem, hNE, encD, argD, encP]; first | done | exact rfl)))
      | ((with_reducible apply te_callS); (focus (simp only [go_sem, hNE, encD, argD, encP]; first | done | exact rfl)); (focus (simp only [go_sem, hNE, encD, argD, encP]; first | done | exact rfl)); (focus (simp only [go_sem, hNE, encD, argD, encP]; first | done | exact rfl)); (first | exact p52 _ _ _ | exact q1 | exact q2)))
  (first | apply pend rs50 | apply pendN rs50); (focus (simp only [go_sem, encP, exS, exT, argD, encD]; first | done | exact rfl)); (focus (simp only [go_sem, encP, exS, exT, argD, encD]; first | done | exact rfl))
theorem x18 : resolved [exF, exG] exC = (1, 0) := by kernel_rfl
theorem x40a : distOf exF exG = (⟨0, 0, 0, 0⟩, 0) := by kernel_rfl
theorem x40b : distOf exS exT = (⟨0, 0, 0, 0⟩, 12) := by kernel_rfl
theorem x40c : distOf exS exU = (⟨2, 0, 0, 0⟩, 0) := by kernel_rfl
theorem x24 : commonCall exS exT = (exW, 0) := by kernel_rfl
theorem small_of {l : List Prc} (h : (decide (l.length ≤ 1000) && l.all fun p => decide (p.ds.length ≤ 900)) = true) : Tiny l := by
  simp only [Bool.and_eq_true, decide_eq_true_eq, List.all_eq_true] at h
  exact ⟨h.1, h.2⟩
theorem p46 : PPure Try.prog 46 [] (.bool true) := by
  have q := p18 [exF, exG] exC (small_of (by decide)).small (by decide)
  rw [x18] at q
  (refine ppure_of_T ok46 (by simp only [List.length_cons, List.length_nil]; decide) ?_; refine t_seq ?_)
  (have hNE := True.intro; have hC := True.intro; repeat' first
      | with_reducible refine k_seq ?_
      | with_reducible refine t_seq ?_
      | with_reducible refine t_reg ?_
      | with_reducible refine t_nil ?_
      | with_reducible refine t_ret ?_
      | ((with_reducible apply te_val); exact rfl; (intro _ _ _ h; cases h); (focus (simp only [go_sem, hNE, encP, exF, exG, encD, argD, encA]; first | done | exact rfl)))
      | ((with_reducible apply te_callS); (focus (simp only [go_sem, hNE, encP, exF, exG, encD, argD, encA]; first | done | exact rfl)); (focus (simp only [go_sem, hNE, encP, exF, exG, encD, argD, encA]; first | done | exact rfl)); (focus (simp only [go_sem, hNE, encP, exF, exG, encD, argD, encA]; first | done | exact rfl)); (first | exact p49 | exact q))
      | ((with_reducible apply te_gval); exact rfl; (focus (simp only [go_sem, hNE, encP, exF, exG, encD, argD, encA]; first | done | exact rfl)); exact rfl; (intro _ _ _ h; cases h); (focus (intro hG; simp only [go_sem, hNE, encP, exF, exG, encD, argD, encA, hG]; first | done | exact rfl))))
  (first | apply pend rs46 | apply pendN rs46); (focus (simp only [go_sem]; first | done | exact rfl)); (focus (simp only [go_sem]; first | done | exact rfl))
set_option maxHeartbeats 2000000 in
theorem p12 : PPure Try.prog 12 [] (.bool true) := by
  have q18 := p18 [exF, exG] exC (small_of (by decide)).small (by decide)
  rw [x18] at q18
  have q40a := p40 exF exG (by decide) (by decide)
  rw [x40a] at q40a
  have q40b := p40 exS exT (by decide) (by decide)
  rw [x40b] at q40b
  have q40c := p40 exS exU (by decide) (by decide)
  rw [x40c] at q40c
  have q24 := p24 exS exT (by decide) (by decide)
  rw [x24] at q24
  have q51 := p51 [71] [argD [81] 1 0, argD [80] 0 0]
  have q28 := p28 exW exW (by decide) (by decide)
  rw [show (decide ((exW.length : Int) = exW.length) && sameF exW exW) = true by decide] at q28
  (refine ppure_of_T ok12 (by simp only [List.length_cons, List.length_nil]; decide) ?_; refine t_seq ?_)
  (have hNE := True.intro; have hC := True.intro; repeat' first
      | ((with_reducible apply te_drwA); (focus (simp only [effFlA, List.map_cons, List.map_nil]; exact rfl)); (focus decide +kernel))
      | with_reducible refine k_seq ?_
      | with_reducible refine t_seq ?_
      | with_reducible refine t_reg ?_
      | with_reducible refine t_nil ?_
      | with_reducible refine t_ret ?_
      | with_reducible refine m_nil ?_
      | ((with_reducible apply te_val); exact rfl; (intro _ _ _ h; cases h); (focus (simp only [go_sem, hNE, encP, exF, exG, exS, exT, exU, encD, argD, encA, encS, exW, e_72]; first | done | exact rfl)))
      | ((with_reducible apply te_callS); (focus (simp only [go_sem, hNE, encP, exF, exG, exS, exT, exU, encD, argD, encA, encS, exW, e_72]; first | done | exact rfl)); (focus (simp only [go_sem, hNE, encP, exF, exG, exS, exT, exU, encD, argD, encA, encS, exW, e_72]; first | done | exact rfl)); (focus (simp only [go_sem, hNE, encP, exF, exG, exS, exT, exU, encD, argD, encA, encS, exW, e_72]; first | done | exact rfl)); (first | exact p49 | exact p50 | exact q18 | exact q40a | exact q40b | exact q40c | exact q24 | exact p52 _ _ _ | exact q51 | exact q28))
      | ((with_reducible apply te_gval); exact rfl; (focus (simp only [go_sem, hNE, encP, exF, exG, exS, exT, exU, encD, argD, encA, encS, exW, e_72]; first | done | exact rfl)); exact rfl; (intro _ _ _ h; cases h); (focus (intro hG; simp only [go_sem, hNE, encP, exF, exG, exS, exT, exU, encD, argD, encA, encS, exW, e_72, hG]; first | done | exact rfl)))
      | ((with_reducible apply te_gcallO); exact rfl; (focus (simp only [go_sem, hNE, encP, exF, exG, exS, exT, exU, encD, argD, encA, encS, exW, e_72]; first | done | exact rfl)); (focus (simp only [go_sem, hNE, encP, exF, exG, exS, exT, exU, encD, argD, encA, encS, exW, e_72]; first | done | exact rfl)); (focus (intro hG; simp only [go_sem, hNE, encP, exF, exG, exS, exT, exU, encD, argD, encA, encS, exW, e_72, hG]; first | done | exact rfl)); (focus (intro hG; simp only [go_sem, hNE, encP, exF, exG, exS, exT, exU, encD, argD, encA, encS, exW, e_72, hG]; first | done | exact rfl)); (intro hG; first | exact p49 | exact p50 | exact q18 | exact q40a | exact q40b | exact q40c | exact q24 | exact p52 _ _ _ | exact q51 | exact q28); exact rfl)
      | ((with_reducible apply me_val); exact rfl; (intro _ _ _ h; cases h); (focus (simp only [go_sem, hNE, encP, exF, exG, exS, exT, exU, encD, argD, encA, encS, exW, e_72]; first | done | exact rfl)))
      | ((with_reducible apply me_callS); (focus (simp only [go_sem, hNE, encP, exF, exG, exS, exT, exU, encD, argD, encA, encS, exW, e_72]; first | done | exact rfl)); (focus (simp only [go_sem, hNE, encP, exF, exG, exS, exT, exU, encD, argD, encA, encS, exW, e_72]; first | done | exact rfl)); (focus (simp only [go_sem, hNE, encP, exF, exG, exS, exT, exU, encD, argD, encA, encS, exW, e_72]; first | done | exact rfl)); (first | exact p49 | exact p50 | exact q18 | exact q40a | exact q40b | exact q40c | exact q24 | exact p52 _ _ _ | exact q51 | exact q28))
      | ((with_reducible apply me_alloc); (focus (simp only [go_sem, hNE, encP, exF, exG, exS, exT, exU, encD, argD, encA, encS, exW, e_72]; first | done | exact rfl)); exact rfl; exact rfl; (intro la ha hn1; have hNE := And.intro hNE hn1))
      | ((with_reducible apply me_store); (focus (simp only [go_sem, hNE, encP, exF, exG, exS, exT, exU, encD, argD, encA, encS, exW, e_72]; first | done | exact rfl)); (focus (simp only [go_sem, hNE, encP, exF, exG, exS, exT, exU, encD, argD, encA, encS, exW, e_72]; first | done | exact rfl)); (focus (simp only [go_sem, hNE, encP, exF, exG, exS, exT, exU, encD, argD, encA, encS, exW, e_72]; first | done | exact rfl)); (focus (simp only [go_sem, hNE, encP, exF, exG, exS, exT, exU, encD, argD, encA, encS, exW, e_72]; first | done | exact rfl)); (focus (simp only [go_sem, hNE, encP, exF, exG, exS, exT, exU, encD, argD, encA, encS, exW, e_72]; first | done | exact rfl)); (focus (simp only [go_sem, hNE, encP, exF, exG, exS, exT, exU, encD, argD, encA, encS, exW, e_72]; first | done | exact rfl))))
  (first | apply pend rs12 | apply pendN rs12); (focus (simp only [go_sem]; first | done | exact rfl)); (focus (simp only [go_sem]; first | done | exact rfl))
end Go.Proofs.Ytloecggdboingaa
namespace Go.Proofs.Ytloecggdboingaa
open Go.ChangeShapes Go.WideShapes Go.ChangeAt Go.RowKit Go.Deep Go.Proofs
set_option linter.unusedVariables false
set_option linter.unusedSimpArgs false

def ptF : PT := .seq (.int .i64) (.seq (.int .i64) (.seq (.int .i64) .unit))
def ptD : PT := .seq .str (.seq ptF (.seq .bool (.seq .bool .unit)))
def ptP : PT := .seq .str (.seq (.list true ptD) .unit)
def ptA : PT := .seq .str (.seq ptF .unit)
def ptS : PT := .seq (.int .i64) (.seq (.int .i64) (.seq (.int .i64) (.seq (.int .i64) .unit)))
theorem tvF {l : List PV} (h : TV ptF l) : ∃ f : Feat, l = [.int .i64 f.t, .int .i64 f.k, .int .i64 f.r] := by
  obtain ⟨_, _, rfl, ⟨a, rfl, _⟩, _, _, rfl, ⟨b, rfl, _⟩, _, _, rfl, ⟨c, rfl, _⟩, rfl⟩ := h
  exact ⟨⟨a, b, c⟩, rfl⟩
theorem tvD (l : List PV) (h : TV ptD l) : ∃ d : Dum, PV.agg l = encD d := by
  obtain ⟨_, _, rfl, ⟨a, rfl, _⟩, _, _, rfl, hf, _, _, rfl, ⟨b, rfl⟩, _, _, rfl, ⟨c, rfl⟩, rfl⟩ := h
  obtain ⟨f, rfl⟩ := tvF hf
  exact ⟨⟨a, f, b, c⟩, rfl⟩
theorem tvP (l : List PV) (h : TV ptP l) : ∃ p : Prc, PV.agg l = encP p := by
  obtain ⟨_, _, rfl, ⟨a, rfl, _⟩, _, _, rfl, hd, rfl⟩ := h
  obtain ⟨ds, rfl, _⟩ := TV_rows tvD hd
  exact ⟨⟨a, ds⟩, rfl⟩
theorem tvA (l : List PV) (h : TV ptA l) : ∃ a : Act, PV.agg l = encA a := by
  obtain ⟨_, _, rfl, ⟨a, rfl, _⟩, _, _, rfl, hf, rfl⟩ := h
  obtain ⟨f, rfl⟩ := tvF hf
  exact ⟨⟨a, f⟩, rfl⟩
theorem okT22 : okT Try.prog 9 22 (.list true ptP) = true := by kernel_rfl
theorem okT23 : okT Try.prog 9 23 (.list true ptA) = true := by kernel_rfl
theorem okT42 : okT Try.prog 9 42 ptP = true := by kernel_rfl
theorem okT72 : okT Try.prog 9 72 ptS = true := by kernel_rfl
section
variable {H : Type} {enc : TypeId × Value → H} {w : World} {r : Reach} {b0 : Nat} {base : Nat} {sp : Nat → Bool} {held : Bool} {v : Value} {d : DataW H} {ps : List MemPlace}
set_option maxRecDepth 100000 in
theorem arg22 (hv : Value.okWide Try.prog w r b0 22 v) (h : DataW.Trod enc Try.prog w base sp held 22 v d ps) : ∃ l : List Prc, VR w noO v (.list .any (l.map encP)) := by
  obtain ⟨q, hT, hq⟩ := arg_slice (T := .list true ptP) 9 u_22 okT22 hv h
  obtain ⟨l, e, _⟩ := TV_rows tvP hT
  obtain rfl : q = _ := by simpa using e
  exact ⟨l, hq⟩
set_option maxRecDepth 100000 in
theorem arg23 (hv : Value.okWide Try.prog w r b0 23 v) (h : DataW.Trod enc Try.prog w base sp held 23 v d ps) : ∃ l : List Act, VR w noO v (.list .any (l.map encA)) := by
  obtain ⟨q, hT, hq⟩ := arg_slice (T := .list true ptA) 9 u_23 okT23 hv h
  obtain ⟨l, e, _⟩ := TV_rows tvA hT
  obtain rfl : q = _ := by simpa using e
  exact ⟨l, hq⟩
set_option maxRecDepth 100000 in
theorem arg42 (hv : Value.okWide Try.prog w r b0 42 v) (h : DataW.Trod enc Try.prog w base sp held 42 v d ps) : ∃ p : Prc, VR w noO v (encP p) := by
  obtain ⟨q, hT, hq⟩ := arg_struct (T := ptP) 9 Try.underlying42 okT42 hv h
  obtain ⟨p, e⟩ := tvP q hT
  rw [e] at hq
  exact ⟨p, hq⟩
set_option maxRecDepth 100000 in
theorem arg72 (hv : Value.okWide Try.prog w r b0 72 v) (h : DataW.Trod enc Try.prog w base sp held 72 v d ps) : ∃ a b c d : Int, VR w noO v (.agg [.int .i64 a, .int .i64 b, .int .i64 c, .int .i64 d]) := by
  obtain ⟨q, hT, hq⟩ := arg_struct (T := ptS) 9 Try.underlying72 okT72 hv h
  obtain ⟨_, _, rfl, ⟨a, rfl, _⟩, _, _, rfl, ⟨b, rfl, _⟩, _, _, rfl, ⟨c, rfl, _⟩, _, _, rfl, ⟨e, rfl, _⟩, rfl⟩ := hT
  exact ⟨a, b, c, e, hq⟩
set_option maxRecDepth 100000 in
theorem arg3 (hv : Value.okWide Try.prog w r b0 3 v) (h : DataW.Trod enc Try.prog w base sp held 3 v d ps) : ∃ n : Int, (Lit.int .i64 n).wf = true ∧ VR w noO v (.int .i64 n) := arg_int u_3 hv h
end
theorem ownKn : ownKnob Try.prog.godebug = none := by kernel_rfl
theorem laidOut : laidOutB Try.prog = true := by kernel_rfl
end Go.Proofs.Ytloecggdboingaa
