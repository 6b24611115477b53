/- Part 5 of the proof: what the claim needs of the framework, the contracts of functions, and the laws. No conditions. -/
import Derived.Test.YthdgdngdfijfhaaUE4
namespace Go.Proofs.Ythdgdngdfijfhaa
open Go.RowKit Go.Proofs
set_option linter.unusedVariables false
set_option linter.unusedSimpArgs false
attribute [local irreducible] PPure CallN Tops TopsDm T
def chkL : List Ev → Nat → Nat → Nat × Int
  | [], i, _ => (i, 0)
  | x :: r, i, n => if (sizeF n x).2 = 0 then chkL r (i + 1) (sizeF n x).1 else (i, (sizeF n x).2)
def chkF (s : List UInt8) (l : List Ev) : Nat × Int := if 20000 < s.length ∨ 300 < l.length then (0, 8) else chkL l 0 s.length
theorem sizeF_le {n : Nat} {x : Ev} (h : (sizeF n x).2 = 0) : evE n x = 0 ∧ (sizeF n x).1 = sizeN n x ∧ sizeN n x ≤ 20000 := by
  unfold sizeF at h ⊢
  split
  · rename_i hz
    rw [if_pos hz] at h
    rw [rfs_zero (by decide)] at h
    simp at h
    exact ⟨hz, rfl, h⟩
  · rename_i hz
    rw [if_neg hz] at h
    exact absurd h hz
attribute [local go_sem] encEv Int.toNat_natCast List.getElem?_map Option.map_some in
set_option maxHeartbeats 2000000 in
theorem p33 (s : List UInt8) (l : List Ev) (hs : s.length ≤ 140737488355328) (hl : l.length ≤ 1000) (hb : ∀ x ∈ l, x.bytes.length ≤ 140737488355328) :
    PPure Try.prog 33 [.str s, .list .any (l.map encEv)] (.tup [.int .i64 ((chkF s l).1 : Int), .int .i64 (chkF s l).2]) := by
  by_cases h1 : 20000 < s.length
  · have e0 : chkF s l = (0, 8) := by simp [chkF, h1]
    have e1 : decide ((20000 : Int) < (s.length : Int)) = true := by simp; omega
    rw [e0]
    (refine ppure_of_T ok33 (by simp only [List.length_cons, List.length_nil]; decide) ?_; refine t_seq ?_)
    (have hA := e1; have hP := True.intro; have hNE := True.intro; have hC := True.intro; repeat' first
        | with_reducible first | refine k_seq ?_ | refine t_seq ?_ | refine t_reg ?_ | refine t_nil ?_ | refine t_ret ?_ | refine k_seq_ret ?_
        | refine ae_val ?_
        | refine ae_gval ?_
        | refine a_cond ?_ ?_
        | (with_reducible intro hc; with_reducible exact Bool.noConfusion hc)
        | (with_reducible intro hc; have hC := And.intro hC hc))
    (first | apply pend rs33 | apply pendN rs33); (focus (simp only [go_sem, Int.natCast_zero]; first | done | exact rfl)); (focus (simp only [go_sem, Int.natCast_zero]; first | done | exact rfl))
  have e1 : decide ((20000 : Int) < (s.length : Int)) = false := by simp; omega
  by_cases h2 : 300 < l.length
  · have e0 : chkF s l = (0, 8) := by simp [chkF, h2]
    have e2 : decide ((300 : Int) < (l.length : Int)) = true := by simp; omega
    rw [e0]
    (refine ppure_of_T ok33 (by simp only [List.length_cons, List.length_nil]; decide) ?_; refine t_seq ?_)
    (have hA := And.intro e1 (e2); have hP := True.intro; have hNE := True.intro; have hC := True.intro; repeat' first
        | with_reducible first | refine k_seq ?_ | refine t_seq ?_ | refine t_reg ?_ | refine t_nil ?_ | refine t_ret ?_ | refine k_seq_ret ?_
        | refine ae_val ?_
        | refine ae_gval ?_
        | refine a_cond ?_ ?_
        | (with_reducible intro hc; with_reducible exact Bool.noConfusion hc)
        | (with_reducible intro hc; have hC := And.intro hC hc))
    (first | apply pend rs33 | apply pendN rs33); (focus (simp only [go_sem, Int.natCast_zero]; first | done | exact rfl)); (focus (simp only [go_sem, Int.natCast_zero]; first | done | exact rfl))
  have e2 : decide ((300 : Int) < (l.length : Int)) = false := by simp; omega
  have e0 : chkF s l = chkL l 0 s.length := by simp [chkF, h1, h2]
  obtain ⟨R, hR⟩ : ∃ R, chkL l 0 s.length = R := ⟨_, rfl⟩
  rw [e0, hR]
  (refine ppure_of_T ok33 (by simp only [List.length_cons, List.length_nil]; decide) ?_; refine t_seq ?_)
  (have hA := And.intro e1 (e2); have hP := True.intro; have hNE := True.intro; have hC := True.intro; repeat' first
      | with_reducible first | refine k_seq ?_ | refine t_seq ?_ | refine t_reg ?_ | refine t_nil ?_ | refine t_skip ?_ | refine t_block ?_
      | refine ae_val ?_
      | refine ae_gval ?_
      | refine a_cond ?_ ?_
      | (with_reducible intro hc; with_reducible exact Bool.noConfusion hc)
      | (with_reducible intro hc; have hC := And.intro hC hc))
  refine t_loopX (fun (k0 : Nat) (E0 : Nat → PV) (H0 : Hp) => ∃ (i : Nat) (n : Nat), i + k0 = l.length ∧ n ≤ 20000 ∧ chkL (l.drop i) i n = R ∧ E0 23 = .int .i64 (i : Int) ∧ E0 6 = .int .i64 (n : Int) ∧ E0 4 = .int .i64 0 ∧ E0 5 = .int .i64 0 ∧ H0 = hp []) (l.length) ?_ ?_
  intro Ng
  refine ⟨_, _, wkE_id, rowsok_nil, 0, s.length, (by first | omega | rfl | assumption | (simp (maxDischargeDepth := 8) only [go_sem, Int.natCast_zero, hNE]; first | done | rfl | assumption | omega)), (by first | omega | rfl | assumption | (simp (maxDischargeDepth := 8) only [go_sem, Int.natCast_zero, hNE]; first | done | rfl | assumption | omega)), ?_, (by simp (maxDischargeDepth := 8) only [go_sem, Int.natCast_zero, hNE, List.length_append, List.length_cons, List.length_nil, Nat.zero_add]; first | done | rfl), (by simp (maxDischargeDepth := 8) only [go_sem, Int.natCast_zero, hNE, List.length_append, List.length_cons, List.length_nil, Nat.zero_add]; first | done | rfl), (by simp (maxDischargeDepth := 8) only [go_sem, Int.natCast_zero, hNE, List.length_append, List.length_cons, List.length_nil, Nat.zero_add]; first | done | rfl), (by simp (maxDischargeDepth := 8) only [go_sem, Int.natCast_zero, hNE, List.length_append, List.length_cons, List.length_nil, Nat.zero_add]; first | done | rfl), rfl⟩
  · exact hR
  rintro k0 E0 H0 hfr0 ⟨i, n, hk, hn, hr, h0_23, h0_6, h0_4, h0_5, rfl⟩
  have e0_1 := hfr0 1 rfl; have e0_21 := hfr0 21 rfl; have e0_22 := hfr0 22 rfl
  simp (maxDischargeDepth := 8) only [go_sem, Int.natCast_zero, hNE] at e0_1 e0_21 e0_22
  clear hfr0
  by_cases hi : i < l.length
  · obtain ⟨x, hx, hdr⟩ := at_list hi
    have hlt := lt_int hi
    have hw := wrap_next hi hl
    have hge : (0 : Int) ≤ (i : Int) := by omega
    have h76 := p76 n x hn (hb x (List.mem_of_getElem? hx))
    rw [hdr, chkL] at hr
    by_cases hz : (sizeF n x).2 = 0
    · have hle := sizeF_le hz
      rw [if_pos hz] at hr
      generalize sizeF n x = q at h76 hr hz hle
      have hq : q.1 ≤ 20000 := by omega
      have ez : decide (¬ q.2 = 0) = false := dnz0 hz
      simp only [encEv] at h76
      (have hA := And.intro e0_1 (And.intro e0_21 (And.intro e0_22 (And.intro h0_23 (And.intro h0_6 (And.intro h0_4 (And.intro h0_5 (And.intro hlt (And.intro hge (And.intro hx (ez)))))))))); have hP := And.intro h76 (True.intro); have hNE := True.intro; have hC := True.intro; repeat' first
          | with_reducible first | refine k_seq ?_ | refine t_seq ?_ | refine t_reg ?_ | refine t_nil ?_ | refine t_skip ?_ | refine k_blk ?_ | refine t_block ?_
          | refine ae_val ?_
          | refine ae_callS ?_
          | (refine ae_alloc ?_; intro la ha hn1; have hNE := And.intro hNE hn1)
          | refine ae_store ?_
          | refine a_cond ?_ ?_
          | (with_reducible intro hc; with_reducible exact Bool.noConfusion hc)
          | (with_reducible intro hc; have hC := And.intro hC hc))
      refine k_invX (k0 - 1) (by omega) ?_
      intro Ng
      refine ⟨_, _, wkE_id, rowsok_nil, i + 1, q.1, (by first | omega | (simp only [List.length_append, List.length_cons, List.length_nil, List.length_drop, List.length_take, List.length_map]; omega)), (by first | omega | (simp only [List.length_append, List.length_cons, List.length_nil, List.length_drop, List.length_take, List.length_map]; omega)), ?_, (by simp (maxDischargeDepth := 8) only [go_sem, e0_1, e0_21, e0_22, h0_23, h0_6, h0_4, h0_5, hw, hNE, List.length_append, List.length_cons, List.length_nil, Nat.zero_add]; first | done | rfl), (by simp (maxDischargeDepth := 8) only [go_sem, e0_1, e0_21, e0_22, h0_23, h0_6, h0_4, h0_5, hw, hNE, List.length_append, List.length_cons, List.length_nil, Nat.zero_add]; first | done | rfl), (by simp (maxDischargeDepth := 8) only [go_sem, e0_1, e0_21, e0_22, h0_23, h0_6, h0_4, h0_5, hw, hNE, List.length_append, List.length_cons, List.length_nil, Nat.zero_add]; first | done | rfl), (by simp (maxDischargeDepth := 8) only [go_sem, e0_1, e0_21, e0_22, h0_23, h0_6, h0_4, h0_5, hw, hNE, List.length_append, List.length_cons, List.length_nil, Nat.zero_add]; first | done | rfl), rfl⟩
      exact hr
    · rw [if_neg hz] at hr
      generalize sizeF n x = q at h76 hr hz
      have ez : decide (¬ q.2 = 0) = true := dnz1 hz
      simp only [encEv] at h76
      subst hr
      (have hA := And.intro e0_1 (And.intro e0_21 (And.intro e0_22 (And.intro h0_23 (And.intro h0_6 (And.intro h0_4 (And.intro h0_5 (And.intro hlt (And.intro hge (And.intro hx (ez)))))))))); have hP := And.intro h76 (True.intro); have hNE := True.intro; have hC := True.intro; repeat' first
          | with_reducible first | refine k_seq ?_ | refine t_seq ?_ | refine t_reg ?_ | refine t_nil ?_ | refine t_skip ?_ | refine t_ret ?_ | refine k_seq_ret ?_ | refine k_blk_ret ?_ | refine k_invX_ret ?_ | refine t_block ?_
          | refine ae_val ?_
          | refine ae_callS ?_
          | (refine ae_alloc ?_; intro la ha hn1; have hNE := And.intro hNE hn1)
          | refine ae_store ?_
          | refine a_cond ?_ ?_
          | (with_reducible intro hc; with_reducible exact Bool.noConfusion hc)
          | (with_reducible intro hc; have hC := And.intro hC hc))
      (first | apply pend rs33 | apply pendN rs33); (focus (simp (maxDischargeDepth := 8) only [hNE, go_sem, e0_1, e0_21, e0_22, h0_23, h0_6, h0_4, h0_5]; first | done | exact rfl)); (focus (simp (maxDischargeDepth := 8) only [hNE, go_sem, e0_1, e0_21, e0_22, h0_23, h0_6, h0_4, h0_5]; first | done | exact rfl))
  · have hlt := nlt_int hi
    have hil : i = l.length := by omega
    rw [hil, List.drop_length, chkL] at hr
    subst hr
    (have hA := And.intro e0_1 (And.intro e0_21 (And.intro e0_22 (And.intro h0_23 (And.intro h0_6 (And.intro h0_4 (And.intro h0_5 (hlt))))))); have hP := True.intro; have hNE := True.intro; have hC := True.intro; repeat' first
        | with_reducible first | refine k_seq ?_ | refine t_seq ?_ | refine t_reg ?_ | refine t_nil ?_ | refine t_ret ?_ | refine t_exit ?_ | refine k_seq_exit ?_ | refine k_blk_exit ?_ | refine k_invX_exit ?_
        | refine ae_val ?_
        | refine a_cond ?_ ?_
        | (with_reducible intro hc; with_reducible exact Bool.noConfusion hc)
        | (with_reducible intro hc; have hC := And.intro hC hc))
    (first | apply pend rs33 | apply pendN rs33); (focus (simp only [go_sem, e0_1, e0_21, e0_22, h0_23, h0_6, h0_4, h0_5]; first | done | exact rfl)); (focus (simp only [go_sem, e0_1, e0_21, e0_22, h0_23, h0_6, h0_4, h0_5]; first | done | exact rfl))
def aftF (s : List UInt8) (x : Ev) : List UInt8 :=
  if x.kind = 0 then s.take x.pos.toNat ++ x.bytes ++ s.drop (min (x.pos.toNat + x.bytes.length) s.length) else if x.kind = 1 then s.take x.pos.toNat else s
theorem aft_len {s : List UInt8} {x : Ev} (h : evE s.length x = 0) : (aftF s x).length = sizeN s.length x := by
  obtain ⟨h1, h2, h3, h4⟩ := evE_zero h
  unfold aftF sizeN
  split
  · simp; omega
  · split
    · simp; omega
    · rfl
attribute [local go_sem] pvMinMax strCmp in
set_option maxHeartbeats 2000000 in
theorem p78 (s : List UInt8) (x : Ev) (h : evE s.length x = 0) (hl : s.length ≤ 20000) (hb : x.bytes.length ≤ 140737488355328) : PPure Try.prog 78 [.str s, encEv x] (.str (aftF s x)) := by
  obtain ⟨h1, h2, h3, h4⟩ := evE_zero h
  obtain ⟨p, hp⟩ : ∃ p : Nat, x.pos = (p : Int) := ⟨x.pos.toNat, by omega⟩
  have hpn : x.pos.toNat = p := by omega
  have b1 : (0 : Int) ≤ (p : Int) := by omega
  have b2 : (p : Int) ≤ (s.length : Int) := by omega
  by_cases hk0 : x.kind = 0
  · obtain ⟨m, hm⟩ : ∃ m, min (p + x.bytes.length) s.length = m := ⟨_, rfl⟩
    have e0 : aftF s x = s.take p ++ x.bytes ++ s.drop m := by simp [aftF, hk0, hpn, hm]
    have w1 : IntKind.i64.wrap ((p : Int) + (x.bytes.length : Int)) = ((p + x.bytes.length : Nat) : Int) := by rw [IntKind.wrap_i64]; omega
    have mn : (if (s.length : Int) < ((p + x.bytes.length : Nat) : Int) then (s.length : Int) else ((p + x.bytes.length : Nat) : Int)) = (m : Int) := by split <;> omega
    have b3 : (0 : Int) ≤ (m : Int) := by omega
    have b4 : (m : Int) ≤ (s.length : Int) := by omega
    have b5 : (((s.take p).length + x.bytes.length : Nat) : Int) ≤ 9223372036854775807 := by simp; omega
    have b6 : (((s.take p ++ x.bytes).length + (s.drop m).length : Nat) : Int) ≤ 9223372036854775807 := by simp; omega
    rw [e0]
    simp only [encEv, hk0, hp]
    (refine ppure_of_T ok78 (by simp only [List.length_cons, List.length_nil]; decide) ?_; refine t_seq ?_)
    (have hA := And.intro b1 (And.intro b2 (And.intro b3 (And.intro b4 (And.intro w1 (And.intro mn (And.intro b5 (b6))))))); have hP := True.intro; have hNE := True.intro; have hC := True.intro; repeat' first
        | ((with_reducible apply te_drwA); (focus (simp (maxDischargeDepth := 8) only [effFlA, List.map_cons, List.map_nil]; exact rfl)); (focus decide +kernel))
        | with_reducible first | refine k_seq ?_ | refine t_seq ?_ | refine t_reg ?_ | refine t_nil ?_ | refine t_ret ?_ | refine k_seq_ret ?_ | refine k_blk_ret ?_ | refine t_block ?_ | refine m_nil ?_
        | refine ae_val ?_
        | refine be_val ?_
        | refine ae_box ?_
        | refine a_cond ?_ ?_
        | (with_reducible intro hc; with_reducible exact Bool.noConfusion hc)
        | (with_reducible intro hc; have hC := And.intro hC hc))
    (first | apply pend rs78 | apply pendN rs78); (focus (simp (maxDischargeDepth := 8) only [hNE, go_sem]; first | done | exact rfl)); (focus (simp (maxDischargeDepth := 8) only [hNE, go_sem]; first | done | exact rfl))
  have ek0 : decide (x.kind = 0) = false := by simp [hk0]
  by_cases hk1 : x.kind = 1
  · have e0 : aftF s x = s.take p := by simp [aftF, hk1, hpn]
    rw [e0]
    simp only [encEv, hk1, hp]
    (refine ppure_of_T ok78 (by simp only [List.length_cons, List.length_nil]; decide) ?_; refine t_seq ?_)
    (have hA := And.intro b1 (b2); have hP := True.intro; have hNE := True.intro; have hC := True.intro; repeat' first
        | with_reducible first | refine k_seq ?_ | refine t_seq ?_ | refine t_reg ?_ | refine t_nil ?_ | refine t_ret ?_ | refine k_seq_ret ?_ | refine k_blk_ret ?_ | refine t_block ?_
        | refine ae_val ?_
        | refine ae_box ?_
        | refine a_cond ?_ ?_
        | (with_reducible intro hc; with_reducible exact Bool.noConfusion hc)
        | (with_reducible intro hc; have hC := And.intro hC hc))
    (first | apply pend rs78 | apply pendN rs78); (focus (simp (maxDischargeDepth := 8) only [hNE, go_sem]; first | done | exact rfl)); (focus (simp (maxDischargeDepth := 8) only [hNE, go_sem]; first | done | exact rfl))
  · have e0 : aftF s x = s := by simp [aftF, hk0, hk1]
    have ek1 : decide (x.kind = 1) = false := by simp [hk1]
    rw [e0]
    simp only [encEv]
    (refine ppure_of_T ok78 (by simp only [List.length_cons, List.length_nil]; decide) ?_; refine t_seq ?_)
    (have hA := And.intro ek0 (ek1); have hP := True.intro; have hNE := True.intro; have hC := True.intro; repeat' first
        | with_reducible first | refine k_seq ?_ | refine t_seq ?_ | refine t_reg ?_ | refine t_nil ?_ | refine t_skip ?_ | refine t_ret ?_ | refine k_blk ?_ | refine t_block ?_
        | refine ae_val ?_
        | refine ae_box ?_
        | refine a_cond ?_ ?_
        | (with_reducible intro hc; with_reducible exact Bool.noConfusion hc)
        | (with_reducible intro hc; have hC := And.intro hC hc))
    (first | apply pend rs78 | apply pendN rs78); (focus (simp (maxDischargeDepth := 8) only [hNE, go_sem]; first | done | exact rfl)); (focus (simp (maxDischargeDepth := 8) only [hNE, go_sem]; first | done | exact rfl))
def wrF (s : List UInt8) (l : List Ev) : List UInt8 := l.foldl aftF s
def EvV : Nat → List Ev → Prop
  | _, [] => True
  | n, x :: r => (sizeF n x).2 = 0 ∧ EvV (sizeF n x).1 r
theorem chkL_zero : ∀ (l : List Ev) (i n : Nat), (chkL l i n).2 = 0 ↔ EvV n l
  | [], i, n => by simp [chkL, EvV]
  | x :: l, i, n => by
    rw [chkL, EvV]
    split
    · rename_i h; rw [chkL_zero l]; simp [h]
    · rename_i h; simp [h]
attribute [local go_sem] encEv Int.toNat_natCast List.getElem?_map Option.map_some in
set_option maxHeartbeats 2000000 in
theorem p77 (s0 : List UInt8) (l : List Ev) (hs : s0.length ≤ 20000) (hl : l.length ≤ 1000) (hv : EvV s0.length l) (hb : ∀ x ∈ l, x.bytes.length ≤ 140737488355328) :
    PPure Try.prog 77 [.str s0, .list .any (l.map encEv)] (.str (wrF s0 l)) := by
  obtain ⟨R, hR⟩ : ∃ R, wrF s0 l = R := ⟨_, rfl⟩
  rw [hR]
  (refine ppure_of_T ok77 (by simp only [List.length_cons, List.length_nil]; decide) ?_; refine t_seq ?_)
  (have hA := True.intro; have hP := True.intro; have hNE := True.intro; have hC := True.intro; repeat' first
      | with_reducible first | refine k_seq ?_ | refine t_seq ?_ | refine t_reg ?_ | refine t_nil ?_ | refine t_block ?_
      | refine ae_val ?_)
  refine t_loopX (fun (k0 : Nat) (E0 : Nat → PV) (H0 : Hp) => ∃ (i : Nat) (s : List UInt8), i + k0 = l.length ∧ s.length ≤ 20000 ∧ wrF s (l.drop i) = R ∧ EvV s.length (l.drop i) ∧ E0 9 = .int .i64 (i : Int) ∧ E0 0 = .str s ∧ H0 = hp []) (l.length) ?_ ?_
  intro Ng
  refine ⟨_, _, wkE_id, rowsok_nil, 0, s0, (by first | omega | rfl | assumption | (simp (maxDischargeDepth := 8) only [go_sem, Int.natCast_zero, hNE]; first | done | rfl | assumption | omega)), (by first | omega | rfl | assumption | (simp (maxDischargeDepth := 8) only [go_sem, Int.natCast_zero, hNE]; first | done | rfl | assumption | omega)), ?_, ?_, (by simp (maxDischargeDepth := 8) only [go_sem, Int.natCast_zero, hNE, List.length_append, List.length_cons, List.length_nil, Nat.zero_add]; first | done | rfl), (by simp (maxDischargeDepth := 8) only [go_sem, Int.natCast_zero, hNE, List.length_append, List.length_cons, List.length_nil, Nat.zero_add]; first | done | rfl), rfl⟩
  · exact hR
  · exact hv
  rintro k0 E0 H0 hfr0 ⟨i, s, hk, hn, hr, he, h0_9, h0_0, rfl⟩
  have e0_4 := hfr0 4 rfl; have e0_7 := hfr0 7 rfl; have e0_8 := hfr0 8 rfl
  simp (maxDischargeDepth := 8) only [go_sem, Int.natCast_zero, hNE] at e0_4 e0_7 e0_8
  clear hfr0
  by_cases hi : i < l.length
  · obtain ⟨x, hx, hdr⟩ := at_list hi
    have hlt := lt_int hi
    have hw := wrap_next hi hl
    have hge : (0 : Int) ≤ (i : Int) := by omega
    rw [hdr] at hr he
    obtain ⟨h1, h2⟩ := he
    obtain ⟨g1, g2, g3⟩ := sizeF_le h1
    have hal := aft_len g1
    have h78 := p78 s x g1 hn (hb x (List.mem_of_getElem? hx))
    rw [wrF, List.foldl_cons] at hr
    rw [g2, ← hal] at h2
    have hn2 : (aftF s x).length ≤ 20000 := by omega
    generalize aftF s x = q at h78 hr h2 hn2
    simp only [encEv] at h78
    (have hA := And.intro e0_4 (And.intro e0_7 (And.intro e0_8 (And.intro h0_9 (And.intro h0_0 (And.intro hlt (And.intro hge (hx))))))); have hP := And.intro h78 (True.intro); have hNE := True.intro; have hC := True.intro; repeat' first
        | with_reducible first | refine k_seq ?_ | refine t_seq ?_ | refine t_reg ?_ | refine t_nil ?_ | refine t_skip ?_ | refine k_blk ?_ | refine t_block ?_
        | refine ae_val ?_
        | refine ae_callS ?_
        | (refine ae_alloc ?_; intro la ha hn1; have hNE := And.intro hNE hn1)
        | refine ae_store ?_
        | refine a_cond ?_ ?_
        | (with_reducible intro hc; with_reducible exact Bool.noConfusion hc)
        | (with_reducible intro hc; have hC := And.intro hC hc))
    refine k_invX (k0 - 1) (by omega) ?_
    intro Ng
    refine ⟨_, _, wkE_id, rowsok_nil, i + 1, q, (by first | omega | (simp only [List.length_append, List.length_cons, List.length_nil, List.length_drop, List.length_take, List.length_map]; omega)), (by first | omega | (simp only [List.length_append, List.length_cons, List.length_nil, List.length_drop, List.length_take, List.length_map]; omega)), ?_, ?_, (by simp (maxDischargeDepth := 8) only [go_sem, e0_4, e0_7, e0_8, h0_9, h0_0, hw, hNE, List.length_append, List.length_cons, List.length_nil, Nat.zero_add]; first | done | rfl), (by simp (maxDischargeDepth := 8) only [go_sem, e0_4, e0_7, e0_8, h0_9, h0_0, hw, hNE, List.length_append, List.length_cons, List.length_nil, Nat.zero_add]; first | done | rfl), rfl⟩
    · exact hr
    · exact h2
  · have hlt := nlt_int hi
    have hil : i = l.length := by omega
    rw [hil, List.drop_length, wrF, List.foldl_nil] at hr
    subst hr
    (have hA := And.intro e0_4 (And.intro e0_7 (And.intro e0_8 (And.intro h0_9 (And.intro h0_0 (hlt))))); have hP := True.intro; have hNE := True.intro; have hC := True.intro; repeat' first
        | with_reducible first | refine k_seq ?_ | refine t_seq ?_ | refine t_reg ?_ | refine t_nil ?_ | refine t_ret ?_ | refine t_exit ?_ | refine k_seq_exit ?_ | refine k_blk_exit ?_ | refine k_invX_exit ?_
        | refine ae_val ?_
        | refine a_cond ?_ ?_
        | (with_reducible intro hc; with_reducible exact Bool.noConfusion hc)
        | (with_reducible intro hc; have hC := And.intro hC hc))
    (first | apply pend rs77 | apply pendN rs77); (focus (simp only [go_sem, e0_4, e0_7, e0_8, h0_9, h0_0]; first | done | exact rfl)); (focus (simp only [go_sem, e0_4, e0_7, e0_8, h0_9, h0_0]; first | done | exact rfl))
def wrG (s : List UInt8) (l : List Ev) : List UInt8 × Int := if (chkF s l).2 = 0 then (wrF s l, 0) else ([], (chkF s l).2)
theorem chkF_zero {s : List UInt8} {l : List Ev} (h : (chkF s l).2 = 0) : s.length ≤ 20000 ∧ l.length ≤ 300 ∧ EvV s.length l := by
  unfold chkF at h
  split at h
  · cases h
  · rename_i hn
    exact ⟨by omega, by omega, (chkL_zero l 0 s.length).1 h⟩
theorem p35 (s : List UInt8) (l : List Ev) (hs : s.length ≤ 140737488355328) (hl : l.length ≤ 1000) (hb : ∀ x ∈ l, x.bytes.length ≤ 140737488355328) :
    PPure Try.prog 35 [.str s, .list .any (l.map encEv)] (.tup [.str (wrG s l).1, .int .i64 (wrG s l).2]) := by
  have h1 := p33 s l hs hl hb
  by_cases hz : (chkF s l).2 = 0
  · obtain ⟨g1, g2, g3⟩ := chkF_zero hz
    have h2 := p77 s l g1 hl g3 hb
    have ez := dnz0 hz
    have e0 : wrG s l = (wrF s l, 0) := by rw [wrG, if_pos hz]
    rw [e0]
    (refine ppure_of_T ok35 (by simp only [List.length_cons, List.length_nil]; decide) ?_; refine t_seq ?_)
    (have hA := ez; have hP := And.intro h1 (And.intro h2 (True.intro)); have hNE := True.intro; have hC := True.intro; repeat' first
        | with_reducible first | refine k_seq ?_ | refine t_seq ?_ | refine t_reg ?_ | refine t_nil ?_ | refine t_skip ?_ | refine t_ret ?_
        | refine ae_val ?_
        | refine ae_callS ?_
        | refine a_cond ?_ ?_
        | (with_reducible intro hc; with_reducible exact Bool.noConfusion hc)
        | (with_reducible intro hc; have hC := And.intro hC hc))
    (first | apply pend rs35 | apply pendN rs35); (focus (simp only [go_sem]; first | done | exact rfl)); (focus (simp only [go_sem]; first | done | exact rfl))
  · have ez := dnz1 hz
    have e0 : wrG s l = ([], (chkF s l).2) := by rw [wrG, if_neg hz]
    rw [e0]
    (refine ppure_of_T ok35 (by simp only [List.length_cons, List.length_nil]; decide) ?_; refine t_seq ?_)
    (have hA := ez; have hP := And.intro h1 (True.intro); have hNE := True.intro; have hC := True.intro; repeat' first
        | with_reducible first | refine k_seq ?_ | refine t_seq ?_ | refine t_reg ?_ | refine t_nil ?_ | refine t_ret ?_ | refine k_seq_ret ?_
        | refine ae_val ?_
        | refine ae_callS ?_
        | refine a_cond ?_ ?_
        | (with_reducible intro hc; with_reducible exact Bool.noConfusion hc)
        | (with_reducible intro hc; have hC := And.intro hC hc))
    (first | apply pend rs35 | apply pendN rs35); (focus (simp only [go_sem]; first | done | exact rfl)); (focus (simp only [go_sem]; first | done | exact rfl))
end Go.Proofs.Ythdgdngdfijfhaa
namespace Go.Proofs.Ythdgdngdfijfhaa
open Go.RowKit Go.Proofs
set_option linter.unusedVariables false
set_option linter.unusedSimpArgs false
attribute [local irreducible] PPure CallN Tops TopsDm T
theorem not_lt_or (n lo hi : Int) : (!(decide (n < lo) || decide (hi < n))) = btw n lo hi := by
  unfold btw
  rw [Bool.not_or, ← decide_not, ← decide_not]
  congr 1 <;> (simp only [decide_eq_decide]; omega)
theorem p53 (n lo hi : Int) : PPure Try.prog 53 [.int .i64 n, .int .i64 lo, .int .i64 hi] (.bool (btw n lo hi)) := by
  have h := not_lt_or n lo hi
  rw [← h]
  (refine ppure_of_T ok53 (by simp only [List.length_cons, List.length_nil]; decide) ?_; refine t_seq ?_)
  (have hA := True.intro; have hP := True.intro; have hNE := True.intro; have hC := True.intro; repeat' first
      | with_reducible first | refine k_seq ?_ | refine t_seq ?_ | refine t_reg ?_ | refine t_nil ?_ | refine t_ret ?_
      | refine ae_val ?_
      | refine ae_gval ?_)
  (first | apply pend rs53 | apply pendN rs53); (focus (simp only [go_sem]; first | done | exact rfl)); (focus (simp only [go_sem]; first | done | exact rfl))
attribute [local go_sem] Int.toNat_natCast in
set_option maxHeartbeats 1000000 in
theorem p22 (s : List UInt8) (hl : s.length ≤ 100000) : PPure Try.prog 22 [.str s] (.int .i64 ((sumF s : Nat) : Int)) := by
  (refine ppure_of_T ok22 (by simp only [List.length_cons, List.length_nil]; decide) ?_; refine t_seq ?_)
  (have hA := True.intro; have hP := True.intro; have hNE := True.intro; have hC := True.intro; repeat' first
      | with_reducible first | refine k_seq ?_ | refine t_seq ?_ | refine t_reg ?_ | refine t_nil ?_ | refine t_block ?_
      | refine ae_val ?_)
  refine t_loopX (fun (k0 : Nat) (E0 : Nat → PV) (H0 : Hp) => ∃ (i : Nat) (n : Nat), i + k0 = s.length ∧ n < 65521 ∧ sumN (s.drop i) i n = sumF s ∧ E0 4 = .int .i64 i ∧ E0 3 = .int .i64 (n : Int) ∧ H0 = hp []) (s.length) ?_ ?_
  intro Ng
  refine ⟨_, _, wkE_id, rowsok_nil, 0, 0, (by first | omega | rfl | assumption | (simp (maxDischargeDepth := 8) only [go_sem, cast0, hNE]; first | done | rfl | assumption | omega)), (by first | omega | rfl | assumption | (simp (maxDischargeDepth := 8) only [go_sem, cast0, hNE]; first | done | rfl | assumption | omega)), ?_, (by simp (maxDischargeDepth := 8) only [go_sem, cast0, hNE, List.length_append, List.length_cons, List.length_nil, Nat.zero_add]; first | done | rfl), (by simp (maxDischargeDepth := 8) only [go_sem, cast0, hNE, List.length_append, List.length_cons, List.length_nil, Nat.zero_add]; first | done | rfl), rfl⟩
  · rfl
  rintro k0 E0 H0 hfr0 ⟨i, n, hk, hn, hr, h0_4, h0_3, rfl⟩
  have e0_0 := hfr0 0 rfl; have e0_2 := hfr0 2 rfl
  simp (maxDischargeDepth := 8) only [go_sem, cast0, hNE] at e0_0 e0_2
  clear hfr0
  by_cases hi : i < s.length
  · obtain ⟨c, hx, hdr⟩ := at_list hi
    have hlt := lt_int hi
    have hge : (0 : Int) ≤ (i : Int) := by omega
    have hw := wrap_at hi (by omega)
    have hc := c.toNat_lt
    rw [hdr, sumN] at hr
    obtain ⟨m, hm⟩ : ∃ m, (c.toNat + 1) * (i + 1) = m := ⟨_, rfl⟩
    have hmb : m ≤ 256 * 100000 := by rw [← hm]; exact Nat.mul_le_mul (by omega) (by omega)
    have w0 : IntKind.i64.wrap (c.toNat : Int) = (c.toNat : Int) := by rw [IntKind.wrap_i64]; omega
    have w1 : IntKind.i64.wrap ((c.toNat : Int) + 1) = ((c.toNat + 1 : Nat) : Int) := by rw [IntKind.wrap_i64]; omega
    have w2 : IntKind.i64.wrap (((c.toNat + 1 : Nat) : Int) * ((i + 1 : Nat) : Int)) = (m : Int) := by rw [← Int.natCast_mul, hm, IntKind.wrap_i64]; omega
    have w3 : IntKind.i64.wrap ((n : Int) + (m : Int)) = ((n + m : Nat) : Int) := by rw [IntKind.wrap_i64]; omega
    have w4 : Int.tmod ((n + m : Nat) : Int) 65521 = (((n + m) % 65521 : Nat) : Int) := by rw [Int.tmod_eq_emod_of_nonneg (by omega)]; omega
    rw [hm] at hr
    (have hA := And.intro e0_0 (And.intro e0_2 (And.intro h0_4 (And.intro h0_3 (And.intro hlt (And.intro hge (And.intro hx (And.intro w0 (And.intro w1 (And.intro w2 (And.intro w3 (And.intro w4 (hw)))))))))))); have hP := True.intro; have hNE := True.intro; have hC := True.intro; repeat' first
        | with_reducible first | refine k_seq ?_ | refine t_seq ?_ | refine t_reg ?_ | refine t_nil ?_ | refine t_skip ?_ | refine k_blk ?_ | refine t_block ?_
        | refine ae_val ?_
        | refine a_cond ?_ ?_
        | (with_reducible intro hc; with_reducible exact Bool.noConfusion hc)
        | (with_reducible intro hc; have hC := And.intro hC hc))
    refine k_invX (k0 - 1) (by omega) ?_
    intro Ng
    refine ⟨_, _, wkE_id, rowsok_nil, i + 1, (n + m) % 65521, (by first | omega | (simp only [List.length_append, List.length_cons, List.length_nil, List.length_drop, List.length_take, List.length_map]; omega)), (by first | omega | (simp only [List.length_append, List.length_cons, List.length_nil, List.length_drop, List.length_take, List.length_map]; omega)), ?_, (by simp (maxDischargeDepth := 8) only [go_sem, e0_0, e0_2, h0_4, h0_3, hw, w4, hNE, List.length_append, List.length_cons, List.length_nil, Nat.zero_add]; first | done | rfl), (by simp (maxDischargeDepth := 8) only [go_sem, e0_0, e0_2, h0_4, h0_3, hw, w4, hNE, List.length_append, List.length_cons, List.length_nil, Nat.zero_add]; first | done | rfl), rfl⟩
    exact hr
  · have hlt := nlt_int hi
    rw [at_end hi, sumN] at hr
    (have hA := And.intro e0_0 (And.intro e0_2 (And.intro h0_4 (And.intro h0_3 (hlt)))); have hP := True.intro; have hNE := True.intro; have hC := True.intro; repeat' first
        | with_reducible first | refine k_seq ?_ | refine t_seq ?_ | refine t_reg ?_ | refine t_nil ?_ | refine t_ret ?_ | refine t_exit ?_ | refine k_seq_exit ?_ | refine k_blk_exit ?_ | refine k_invX_exit ?_
        | refine ae_val ?_
        | refine a_cond ?_ ?_
        | (with_reducible intro hc; with_reducible exact Bool.noConfusion hc)
        | (with_reducible intro hc; have hC := And.intro hC hc))
    (first | apply pend rs22 | apply pendN rs22); (focus (simp only [go_sem, e0_0, e0_2, h0_4, h0_3, ← hr]; first | done | exact rfl)); (focus (simp only [go_sem, e0_0, e0_2, h0_4, h0_3, ← hr]; first | done | exact rfl))
attribute [local go_sem] strCmp List.length_cons List.length_nil Nat.zero_add in
set_option maxHeartbeats 1000000 in
theorem p95 (n k : Nat) (hn : n ≤ 1000000000) (hk8 : k ≤ 8) : PPure Try.prog 95 [.int .i64 (n : Int), .int .i64 (k : Int)] (.str (leB n k)) := by
  (refine ppure_of_T ok95 (by simp only [List.length_cons, List.length_nil]; decide) ?_; refine t_seq ?_)
  (have hA := True.intro; have hP := True.intro; have hNE := True.intro; have hC := True.intro; repeat' first
      | with_reducible first | refine k_seq ?_ | refine t_seq ?_ | refine t_reg ?_ | refine t_nil ?_ | refine t_block ?_
      | refine ae_val ?_)
  refine t_loopX (fun (k0 : Nat) (E0 : Nat → PV) (H0 : Hp) => ∃ (i : Nat), i + k0 = k ∧ E0 0 = .int .i64 ((n / 256 ^ i : Nat) : Int) ∧ E0 5 = .str (leB n i) ∧ E0 6 = .int .i64 (i : Int) ∧ H0 = hp []) (k) ?_ ?_
  intro Ng
  refine ⟨_, _, wkE_id, rowsok_nil, 0, (by first | omega | rfl | assumption | (simp (maxDischargeDepth := 8) only [go_sem, cast0, Nat.pow_zero, Nat.div_one, leB, hNE]; first | done | rfl | assumption | omega)), (by simp (maxDischargeDepth := 8) only [go_sem, cast0, Nat.pow_zero, Nat.div_one, leB, hNE, List.length_append, List.length_cons, List.length_nil, Nat.zero_add]; first | done | rfl), (by simp (maxDischargeDepth := 8) only [go_sem, cast0, Nat.pow_zero, Nat.div_one, leB, hNE, List.length_append, List.length_cons, List.length_nil, Nat.zero_add]; first | done | rfl), (by simp (maxDischargeDepth := 8) only [go_sem, cast0, Nat.pow_zero, Nat.div_one, leB, hNE, List.length_append, List.length_cons, List.length_nil, Nat.zero_add]; first | done | rfl), rfl⟩
  rintro k0 E0 H0 hfr0 ⟨i, hk, h0_0, h0_5, h0_6, rfl⟩
  have e0_1 := hfr0 1 rfl; have e0_4 := hfr0 4 rfl
  simp (maxDischargeDepth := 8) only [go_sem, cast0, Nat.pow_zero, Nat.div_one, leB, hNE] at e0_1 e0_4
  clear hfr0
  obtain ⟨q, hq⟩ : ∃ q, n / 256 ^ i = q := ⟨_, rfl⟩
  have hqn : q ≤ n := by rw [← hq]; exact Nat.div_le_self _ _
  by_cases hi : i < k
  · have hlt := lt_int hi
    have hw := wrap_at hi (by omega)
    have t1 : Int.tmod (q : Int) 256 = ((q % 256 : Nat) : Int) := by rw [Int.tmod_eq_emod_of_nonneg (by omega)]; omega
    have w1 : IntKind.u8.wrap ((q % 256 : Nat) : Int) = ((q % 256 : Nat) : Int) := by
      rw [show IntKind.u8.wrap ((q % 256 : Nat) : Int) = ((q % 256 : Nat) : Int) % 256 from by rfl]; omega
    have b1 : pvBytes [.int .u8 ((q % 256 : Nat) : Int)] = some [UInt8.ofNat (q % 256)] := by
      simp only [pvBytes]
      rw [if_pos ⟨Int.natCast_nonneg _, by omega⟩]
      simp only [Int.toNat_natCast, pvBytes, Option.map_some]
    have w2 : IntKind.i64.wrap (Int.tdiv (q : Int) 256) = ((n / 256 ^ (i + 1) : Nat) : Int) := by
      rw [Nat.pow_succ, ← Nat.div_div_eq_div_mul, hq, Int.tdiv_eq_ediv_of_nonneg (by omega), IntKind.wrap_i64]; omega
    have b2 : (((leB n i).length + 1 : Nat) : Int) ≤ 9223372036854775807 := by rw [leB_len]; omega
    have e1 : leB n i ++ [UInt8.ofNat (q % 256)] = leB n (i + 1) := by rw [leB_snoc, hq]
    (have hA := And.intro e0_1 (And.intro e0_4 (And.intro h0_0 (And.intro h0_5 (And.intro h0_6 (And.intro hq (And.intro hlt (And.intro hw (And.intro t1 (And.intro w1 (And.intro b1 (And.intro w2 (And.intro b2 (e1))))))))))))); have hP := True.intro; have hNE := True.intro; have hC := True.intro; repeat' first
        | with_reducible first | refine k_seq ?_ | refine t_seq ?_ | refine t_reg ?_ | refine t_nil ?_ | refine t_skip ?_ | refine k_blk ?_ | refine t_block ?_
        | refine ae_conv ?_
        | refine ae_val ?_
        | refine a_cond ?_ ?_
        | (with_reducible intro hc; with_reducible exact Bool.noConfusion hc)
        | (with_reducible intro hc; have hC := And.intro hC hc))
    refine k_invX (k0 - 1) (by omega) ?_
    intro Ng
    refine ⟨_, _, wkE_id, rowsok_nil, i + 1, (by first | omega | (simp only [List.length_append, List.length_cons, List.length_nil, List.length_drop, List.length_take, List.length_map]; omega)), (by simp (maxDischargeDepth := 8) only [go_sem, e0_1, e0_4, h0_0, h0_5, h0_6, hw, w2, e1, hNE, List.length_append, List.length_cons, List.length_nil, Nat.zero_add]; first | done | rfl), (by simp (maxDischargeDepth := 8) only [go_sem, e0_1, e0_4, h0_0, h0_5, h0_6, hw, w2, e1, hNE, List.length_append, List.length_cons, List.length_nil, Nat.zero_add]; first | done | rfl), (by simp (maxDischargeDepth := 8) only [go_sem, e0_1, e0_4, h0_0, h0_5, h0_6, hw, w2, e1, hNE, List.length_append, List.length_cons, List.length_nil, Nat.zero_add]; first | done | rfl), rfl⟩
  · have hlt := nlt_int hi
    have hik : i = k := by omega
    subst hik
    (have hA := And.intro e0_1 (And.intro e0_4 (And.intro h0_0 (And.intro h0_5 (And.intro h0_6 (hlt))))); have hP := True.intro; have hNE := True.intro; have hC := True.intro; repeat' first
        | with_reducible first | refine k_seq ?_ | refine t_seq ?_ | refine t_reg ?_ | refine t_nil ?_ | refine t_ret ?_ | refine t_exit ?_ | refine k_seq_exit ?_ | refine k_blk_exit ?_ | refine k_invX_exit ?_
        | refine ae_val ?_
        | refine a_cond ?_ ?_
        | (with_reducible intro hc; with_reducible exact Bool.noConfusion hc)
        | (with_reducible intro hc; have hC := And.intro hC hc))
    (first | apply pend rs95 | apply pendN rs95); (focus (simp only [go_sem, e0_1, e0_4, h0_0, h0_5, h0_6]; first | done | exact rfl)); (focus (simp only [go_sem, e0_1, e0_4, h0_0, h0_5, h0_6]; first | done | exact rfl))
attribute [local go_sem] pvMinMax Int.toNat_natCast List.length_replicate List.take_replicate Nat.min_self in
theorem p65 (n : Nat) (hn : n ≤ 1000000) : PPure Try.prog 65 [.int .i64 (n : Int)] (.str (List.replicate n 0)) := by
  have mx : (if (n : Int) < 0 then (0 : Int) else (n : Int)) = (n : Int) := if_neg (by omega)
  have b1 : pvBytes (List.replicate n (.int .u8 0)) = some (List.replicate n 0) := by
    have := pvBytes_map (List.replicate n 0)
    simpa [encY] using this
  (refine ppure_of_T ok65 (by simp only [List.length_cons, List.length_nil]; decide) ?_; refine t_seq ?_)
  (have hA := And.intro mx (b1); have hP := True.intro; have hNE := True.intro; have hC := True.intro; repeat' first
      | with_reducible first | refine k_seq ?_ | refine t_seq ?_ | refine t_reg ?_ | refine t_nil ?_ | refine t_ret ?_
      | refine ae_conv ?_
      | refine ae_val ?_
      | ((with_reducible apply te_makeSlice); (focus (simp (maxDischargeDepth := 8) only [go_sem, hNE, hA]; first | done | exact rfl)); (focus (simp (maxDischargeDepth := 8) only [go_sem, hNE, hA]; first | done | exact rfl)); (focus (simp (maxDischargeDepth := 8) only [go_sem, hNE, hA]; first | done | exact rfl)); (focus (simp (maxDischargeDepth := 8) only [go_sem, hNE, hA]; first | done | exact rfl)); (focus (simp (maxDischargeDepth := 8) only [go_sem, hNE, hA]; first | done | exact rfl)); exact rfl; (focus (first | exact rfl | (simp (maxDischargeDepth := 8) only [go_sem, hNE, hA]; done))); (focus (first | omega | (simp (maxDischargeDepth := 8) only [go_sem, hNE, hA]; done))); (focus (simp (maxDischargeDepth := 8) only [go_sem, hNE, hA, roomB, List.length_take, List.length_append]; first | done | omega)); (focus omega); (intro la ha hn1; have hNE := And.intro hNE hn1)))
  (first | apply pend rs65 | apply pendN rs65); (focus (simp only [go_sem]; first | done | exact rfl)); (focus (simp only [go_sem]; first | done | exact rfl))
attribute [local go_sem] strCmp in
theorem p63 (k : UInt8) (s : List UInt8) (hs : s.length ≤ 20000) : PPure Try.prog 63 [.str [k], .str s] (.str (frmF k s)) := by
  have h1 : PPure Try.prog 95 [.int .i64 (s.length : Int), .int .i64 3] (.str (leB s.length 3)) := p95 s.length 3 (by omega) (by decide)
  have hl : (leB s.length 3).length = 3 := leB_len _ _
  have h2 := p22 (k :: (leB s.length 3 ++ s)) (by simp [hl]; omega)
  have h3 : PPure Try.prog 95 [.int .i64 ((sumF (k :: (leB s.length 3 ++ s)) : Nat) : Int), .int .i64 4] (.str (leB (sumF (k :: (leB s.length 3 ++ s))) 4)) := p95 _ 4 (by have := sumF_lt (k :: (leB s.length 3 ++ s)); omega) (by decide)
  have h4 : (leB (sumF (k :: (leB s.length 3 ++ s))) 4).length = 4 := leB_len _ _
  have e0 : frmF k s = k :: (leB s.length 3 ++ (s ++ leB (sumF (k :: (leB s.length 3 ++ s))) 4)) := by simp [frmF, smdF]
  rw [e0]
  generalize leB s.length 3 = q at h1 h2 h3 h4 hl ⊢
  generalize leB (sumF (k :: (q ++ s))) 4 = z at h3 h4 ⊢
  have b1 : ((1 + q.length : Nat) : Int) ≤ 9223372036854775807 := by omega
  have b2 : ((q.length + 1 + s.length : Nat) : Int) ≤ 9223372036854775807 := by omega
  have b3 : (((q ++ s).length + 1 + z.length : Nat) : Int) ≤ 9223372036854775807 := by simp only [List.length_append]; omega
  have b4 : ((q.length + s.length + 1 + z.length : Nat) : Int) ≤ 9223372036854775807 := by omega
  (refine ppure_of_T ok63 (by simp only [List.length_cons, List.length_nil]; decide) ?_; refine t_seq ?_)
  (have hA := And.intro b1 (And.intro b2 (And.intro b3 (b4))); have hP := And.intro h1 (And.intro h2 (And.intro h3 (True.intro))); have hNE := True.intro; have hC := True.intro; repeat' first
      | with_reducible first | refine k_seq ?_ | refine t_seq ?_ | refine t_reg ?_ | refine t_nil ?_ | refine t_ret ?_
      | refine ae_val ?_
      | refine ae_callS ?_)
  (first | apply pend rs63 | apply pendN rs63); (focus (simp only [go_sem, List.append_assoc, List.cons_append]; first | done | exact rfl)); (focus (simp only [go_sem, List.append_assoc, List.cons_append]; first | done | exact rfl))
theorem leB1 (n : Nat) (h : n < 256) : leB n 1 = [UInt8.ofNat n] := by simp [leB, Nat.mod_eq_of_lt h]
attribute [local go_sem] strCmp in
theorem p64 (n : Nat) (s : List UInt8) (hn : n < 256) (hs : s.length ≤ 20000) : PPure Try.prog 64 [.int .i64 (n : Int), .str s] (.str (sltF n s)) := by
  have h1 : PPure Try.prog 95 [.int .i64 (n : Int), .int .i64 1] (.str [UInt8.ofNat n]) := by have := p95 n 1 (by omega) (by decide); rwa [leB1 n hn] at this
  have h2 := p22 (UInt8.ofNat n :: s) (by simp; omega)
  have h3 : PPure Try.prog 95 [.int .i64 ((sumF (UInt8.ofNat n :: s) : Nat) : Int), .int .i64 4] (.str (leB (sumF (UInt8.ofNat n :: s)) 4)) := p95 _ 4 (by have := sumF_lt (UInt8.ofNat n :: s); omega) (by decide)
  have h4 : (leB (sumF (UInt8.ofNat n :: s)) 4).length = 4 := leB_len _ _
  have e0 : sltF n s = s ++ leB (sumF (UInt8.ofNat n :: s)) 4 := rfl
  rw [e0]
  generalize leB (sumF (UInt8.ofNat n :: s)) 4 = z at h3 h4 ⊢
  have b1 : ((1 + s.length : Nat) : Int) ≤ 9223372036854775807 := by omega
  have b2 : ((s.length + z.length : Nat) : Int) ≤ 9223372036854775807 := by omega
  (refine ppure_of_T ok64 (by simp only [List.length_cons, List.length_nil]; decide) ?_; refine t_seq ?_)
  (have hA := And.intro b1 (b2); have hP := And.intro h1 (And.intro h2 (And.intro h3 (True.intro))); have hNE := True.intro; have hC := True.intro; repeat' first
      | with_reducible first | refine k_seq ?_ | refine t_seq ?_ | refine t_reg ?_ | refine t_nil ?_ | refine t_ret ?_
      | refine ae_val ?_
      | refine ae_callS ?_)
  (first | apply pend rs64 | apply pendN rs64); (focus (simp only [go_sem]; first | done | exact rfl)); (focus (simp only [go_sem]; first | done | exact rfl))
end Go.Proofs.Ythdgdngdfijfhaa
namespace Go.Proofs.Ythdgdngdfijfhaa
open Go.RowKit Go.Proofs
set_option linter.unusedVariables false
set_option linter.unusedSimpArgs false
attribute [local irreducible] PPure CallN Tops TopsDm T
theorem p72 (n : Int) : PPure Try.prog 72 [.int .i64 n] (encAn (stA n)) := by
  simp only [encAn, stA]
  (refine ppure_of_T ok72 (by simp only [List.length_cons, List.length_nil]; decide) ?_; refine t_seq ?_)
  (have hA := True.intro; have hP := True.intro; have hNE := True.intro; have hC := True.intro; repeat' first
      | with_reducible first | refine k_seq ?_ | refine t_seq ?_ | refine t_reg ?_ | refine t_nil ?_ | refine t_ret ?_
      | refine ae_val ?_
      | (refine ae_alloc ?_; intro la ha hn1; have hNE := And.intro hNE hn1)
      | refine ae_store ?_)
  (first | apply pend rs72 | apply pendN rs72); (focus (simp only [go_sem]; first | done | exact rfl)); (focus (simp only [go_sem]; first | done | exact rfl))
theorem p72' (n : Int) : PPure Try.prog 72 [.int .i64 n] (.agg [.int .i64 n, .str [], .int .i64 0]) := p72 n
theorem orE2 (b c : Bool) (x y : Int) (hx : x ≠ 0) (hy : y ≠ 0) : orE [rfs b x, rfs c y] = if b = true then x else if c = true then y else 0 := by
  cases b <;> cases c <;> simp [orE, rfs, hx, hy]
theorem orE3 (b c d : Bool) (x y z : Int) (hx : x ≠ 0) (hy : y ≠ 0) (hz : z ≠ 0) : orE [rfs b x, rfs c y, rfs d z] = if b = true then x else if c = true then y else if d = true then z else 0 := by
  cases b <;> cases c <;> cases d <;> simp [orE, rfs, hx, hy, hz]
theorem p52 (a w : Int) : PPure Try.prog 52 [.int .i64 a, .int .i64 w] (.int .i64 (accF a w)) := by
  have h1 := p53 a 0 2
  have h2 := p53 w 1 200
  rw [accF, orE2 _ _ _ _ (by decide) (by decide)]
  by_cases h : btw a 0 2 = true
  · have e1 : (!btw a 0 2) = false := by rw [h]; rfl
    by_cases ha : a = 1
    · have e2 : decide (a = 1) = true := by simp [ha]
      have e3 : decide (¬ a = 1) = false := by simp [ha]
      subst ha
      cases hb : btw w 1 200 with
      | true =>
        rw [hb] at h2
        rw [h] at h1
        simp only [h, hb]
        (refine ppure_of_T ok52 (by simp only [List.length_cons, List.length_nil]; decide) ?_; refine t_seq ?_)
        (have hA := And.intro e2 (e3); have hP := And.intro h1 (And.intro h2 (True.intro)); have hNE := True.intro; have hC := True.intro; repeat' first
            | with_reducible first | refine k_seq ?_ | refine t_seq ?_ | refine t_reg ?_ | refine t_nil ?_ | refine t_skip ?_ | refine t_ret ?_
            | refine ae_val ?_
            | refine ae_callS ?_
            | refine ae_gval ?_
            | refine ae_gcallS ?_
            | refine a_cond ?_ ?_
            | (with_reducible intro hc; with_reducible exact Bool.noConfusion hc)
            | (with_reducible intro hc; have hC := And.intro hC hc))
        (first | apply pend rs52 | apply pendN rs52); (focus (simp only [go_sem]; first | done | exact rfl)); (focus (simp only [go_sem]; first | done | exact rfl))
      | false =>
        rw [hb] at h2
        rw [h] at h1
        simp only [h, hb]
        (refine ppure_of_T ok52 (by simp only [List.length_cons, List.length_nil]; decide) ?_; refine t_seq ?_)
        (have hA := And.intro e2 (e3); have hP := And.intro h1 (And.intro h2 (True.intro)); have hNE := True.intro; have hC := True.intro; repeat' first
            | with_reducible first | refine k_seq ?_ | refine t_seq ?_ | refine t_reg ?_ | refine t_nil ?_ | refine t_skip ?_ | refine t_ret ?_ | refine k_seq_ret ?_
            | refine ae_val ?_
            | refine ae_callS ?_
            | refine ae_gval ?_
            | refine ae_gcallS ?_
            | refine ae_gskip ?_
            | refine a_cond ?_ ?_
            | (with_reducible intro hc; with_reducible exact Bool.noConfusion hc)
            | (with_reducible intro hc; have hC := And.intro hC hc))
        (first | apply pend rs52 | apply pendN rs52); (focus (simp only [go_sem]; first | done | exact rfl)); (focus (simp only [go_sem]; first | done | exact rfl))
    · have e2 : decide (a = 1) = false := by simp [ha]
      have e3 : decide (¬ a = 1) = true := by simp [ha]
      by_cases hw : w = 0
      · have e4 : decide (¬ w = 0) = false := by simp [hw]
        have e5 : (if (!btw a 0 2) = true then (15 : Int) else if (!if a = 1 then btw w 1 200 else decide (w = 0)) = true then 2 else 0) = 0 := by simp [h, ha, hw]
        rw [e5]
        rw [h] at h1
        (refine ppure_of_T ok52 (by simp only [List.length_cons, List.length_nil]; decide) ?_; refine t_seq ?_)
        (have hA := And.intro e2 (And.intro e3 (e4)); have hP := And.intro h1 (And.intro h2 (True.intro)); have hNE := True.intro; have hC := True.intro; repeat' first
            | with_reducible first | refine k_seq ?_ | refine t_seq ?_ | refine t_reg ?_ | refine t_nil ?_ | refine t_skip ?_ | refine t_ret ?_
            | refine ae_val ?_
            | refine ae_callS ?_
            | refine ae_gval ?_
            | refine ae_gcallS ?_
            | refine a_cond ?_ ?_
            | (with_reducible intro hc; with_reducible exact Bool.noConfusion hc)
            | (with_reducible intro hc; have hC := And.intro hC hc))
        (first | apply pend rs52 | apply pendN rs52); (focus (simp only [go_sem]; first | done | exact rfl)); (focus (simp only [go_sem]; first | done | exact rfl))
      · have e4 : decide (¬ w = 0) = true := by simp [hw]
        have e5 : (if (!btw a 0 2) = true then (15 : Int) else if (!if a = 1 then btw w 1 200 else decide (w = 0)) = true then 2 else 0) = 2 := by simp [h, ha, hw]
        rw [e5]
        rw [h] at h1
        (refine ppure_of_T ok52 (by simp only [List.length_cons, List.length_nil]; decide) ?_; refine t_seq ?_)
        (have hA := And.intro e2 (And.intro e3 (e4)); have hP := And.intro h1 (And.intro h2 (True.intro)); have hNE := True.intro; have hC := True.intro; repeat' first
            | with_reducible first | refine k_seq ?_ | refine t_seq ?_ | refine t_reg ?_ | refine t_nil ?_ | refine t_skip ?_ | refine t_ret ?_ | refine k_seq_ret ?_
            | refine ae_val ?_
            | refine ae_callS ?_
            | refine ae_gval ?_
            | refine ae_gcallS ?_
            | refine a_cond ?_ ?_
            | (with_reducible intro hc; with_reducible exact Bool.noConfusion hc)
            | (with_reducible intro hc; have hC := And.intro hC hc))
        (first | apply pend rs52 | apply pendN rs52); (focus (simp only [go_sem]; first | done | exact rfl)); (focus (simp only [go_sem]; first | done | exact rfl))
  · have e1 : (!btw a 0 2) = true := by simpa using h
    have h : btw a 0 2 = false := by simpa using h
    rw [h] at h1 ⊢
    (refine ppure_of_T ok52 (by simp only [List.length_cons, List.length_nil]; decide) ?_; refine t_seq ?_)
    (have hA := True.intro; have hP := And.intro h1 (True.intro); have hNE := True.intro; have hC := True.intro; repeat' first
        | with_reducible first | refine k_seq ?_ | refine t_seq ?_ | refine t_reg ?_ | refine t_nil ?_ | refine t_ret ?_ | refine k_seq_ret ?_
        | refine ae_val ?_
        | refine ae_callS ?_
        | refine a_cond ?_ ?_
        | (with_reducible intro hc; with_reducible exact Bool.noConfusion hc)
        | (with_reducible intro hc; have hC := And.intro hC hc))
    (first | apply pend rs52 | apply pendN rs52); (focus (simp only [go_sem]; first | done | exact rfl)); (focus (simp only [go_sem]; first | done | exact rfl))
theorem p31 (a : Ac) : PPure Try.prog 31 [encAc a] (.int .i64 (actE a)) := by
  have h1 := p53 a.kind 0 7
  rw [actE, orE3 _ _ _ _ _ _ (by decide) (by decide) (by decide)]
  simp only [encAc]
  cases h : btw a.kind 0 7 with
  | false =>
    rw [h] at h1
    (refine ppure_of_T ok31 (by simp only [List.length_cons, List.length_nil]; decide) ?_; refine t_seq ?_)
    (have hA := True.intro; have hP := And.intro h1 (True.intro); have hNE := True.intro; have hC := True.intro; repeat' first
        | with_reducible first | refine k_seq ?_ | refine t_seq ?_ | refine t_reg ?_ | refine t_nil ?_ | refine t_ret ?_ | refine k_seq_ret ?_
        | refine ae_val ?_
        | refine ae_callS ?_
        | refine ae_box ?_
        | refine a_cond ?_ ?_
        | (with_reducible intro hc; with_reducible exact Bool.noConfusion hc)
        | (with_reducible intro hc; have hC := And.intro hC hc))
    (first | apply pend rs31 | apply pendN rs31); (focus (simp (maxDischargeDepth := 8) only [hNE, go_sem]; first | done | exact rfl)); (focus (simp (maxDischargeDepth := 8) only [hNE, go_sem]; first | done | exact rfl))
  | true =>
    rw [h] at h1
    by_cases hl : 4000 < (a.bytes.length : Int)
    · have e1 : decide (4000 < (a.bytes.length : Int)) = true := by simp [hl]
      (refine ppure_of_T ok31 (by simp only [List.length_cons, List.length_nil]; decide) ?_; refine t_seq ?_)
      (have hA := e1; have hP := And.intro h1 (True.intro); have hNE := True.intro; have hC := True.intro; repeat' first
          | with_reducible first | refine k_seq ?_ | refine t_seq ?_ | refine t_reg ?_ | refine t_nil ?_ | refine t_skip ?_ | refine t_ret ?_ | refine k_seq_ret ?_
          | refine ae_val ?_
          | refine ae_callS ?_
          | refine ae_box ?_
          | refine a_cond ?_ ?_
          | (with_reducible intro hc; with_reducible exact Bool.noConfusion hc)
          | (with_reducible intro hc; have hC := And.intro hC hc))
      (first | apply pend rs31 | apply pendN rs31); (focus (simp (maxDischargeDepth := 8) only [hNE, go_sem, e1]; first | done | exact rfl)); (focus (simp (maxDischargeDepth := 8) only [hNE, go_sem, e1]; first | done | exact rfl))
    · have e1 : decide (4000 < (a.bytes.length : Int)) = false := by simp [hl]
      cases hb : (a.bytes == []) with
      | true =>
        (refine ppure_of_T ok31 (by simp only [List.length_cons, List.length_nil]; decide) ?_; refine t_seq ?_)
        (have hA := And.intro e1 (hb); have hP := And.intro h1 (True.intro); have hNE := True.intro; have hC := True.intro; repeat' first
            | with_reducible first | refine k_seq ?_ | refine t_seq ?_ | refine t_reg ?_ | refine t_nil ?_ | refine t_skip ?_ | refine t_ret ?_
            | refine ae_val ?_
            | refine ae_callS ?_
            | refine ae_gval ?_
            | refine ae_gno ?_
            | refine ae_box ?_
            | refine a_cond ?_ ?_
            | (with_reducible intro hc; with_reducible exact Bool.noConfusion hc)
            | (with_reducible intro hc; have hC := And.intro hC hc))
        (first | apply pend rs31 | apply pendN rs31); (focus (simp (maxDischargeDepth := 8) only [hNE, go_sem, e1]; first | done | exact rfl)); (focus (simp (maxDischargeDepth := 8) only [hNE, go_sem, e1]; first | done | exact rfl))
      | false =>
        by_cases hk : a.kind = 1
        · have e2 : decide (¬ a.kind = 1) = false := by simp [hk]
          (refine ppure_of_T ok31 (by simp only [List.length_cons, List.length_nil]; decide) ?_; refine t_seq ?_)
          (have hA := And.intro e1 (And.intro hb (e2)); have hP := And.intro h1 (True.intro); have hNE := True.intro; have hC := True.intro; repeat' first
              | with_reducible first | refine k_seq ?_ | refine t_seq ?_ | refine t_reg ?_ | refine t_nil ?_ | refine t_skip ?_ | refine t_ret ?_
              | refine ae_val ?_
              | refine ae_callS ?_
              | refine ae_gval ?_
              | refine ae_box ?_
              | refine a_cond ?_ ?_
              | (with_reducible intro hc; with_reducible exact Bool.noConfusion hc)
              | (with_reducible intro hc; have hC := And.intro hC hc))
          (first | apply pend rs31 | apply pendN rs31); (focus (simp (maxDischargeDepth := 8) only [hNE, go_sem, e1, e2]; first | done | exact rfl)); (focus (simp (maxDischargeDepth := 8) only [hNE, go_sem, e1, e2]; first | done | exact rfl))
        · have e2 : decide (¬ a.kind = 1) = true := by simp [hk]
          (refine ppure_of_T ok31 (by simp only [List.length_cons, List.length_nil]; decide) ?_; refine t_seq ?_)
          (have hA := And.intro e1 (And.intro hb (e2)); have hP := And.intro h1 (True.intro); have hNE := True.intro; have hC := True.intro; repeat' first
              | with_reducible first | refine k_seq ?_ | refine t_seq ?_ | refine t_reg ?_ | refine t_nil ?_ | refine t_skip ?_ | refine t_ret ?_ | refine k_seq_ret ?_
              | refine ae_val ?_
              | refine ae_callS ?_
              | refine ae_gval ?_
              | refine ae_box ?_
              | refine a_cond ?_ ?_
              | (with_reducible intro hc; with_reducible exact Bool.noConfusion hc)
              | (with_reducible intro hc; have hC := And.intro hC hc))
          (first | apply pend rs31 | apply pendN rs31); (focus (simp (maxDischargeDepth := 8) only [hNE, go_sem, e1, e2]; first | done | exact rfl)); (focus (simp (maxDischargeDepth := 8) only [hNE, go_sem, e1, e2]; first | done | exact rfl))
attribute [local go_sem] encAc Int.toNat_natCast List.getElem?_map Option.map_some in
theorem p26 (l : List Ac) (hl : l.length ≤ 1000) : PPure Try.prog 26 [.list .any (l.map encAc)] (.tup [.int .i64 ((actsE l).1 : Int), .int .i64 (actsE l).2]) := by
  by_cases h6 : 60 < l.length
  · have e0 : actsE l = (0, 8) := by simp [actsE, h6]
    have e1 : decide ((60 : Int) < (l.length : Int)) = true := by simp; omega
    rw [e0]
    (refine ppure_of_T ok26 (by simp only [List.length_cons, List.length_nil]; decide) ?_; refine t_seq ?_)
    (have hA := e1; have hP := True.intro; have hNE := True.intro; have hC := True.intro; repeat' first
        | with_reducible first | refine k_seq ?_ | refine t_seq ?_ | refine t_reg ?_ | refine t_nil ?_ | refine t_ret ?_ | refine k_seq_ret ?_
        | refine ae_val ?_
        | refine a_cond ?_ ?_
        | (with_reducible intro hc; with_reducible exact Bool.noConfusion hc)
        | (with_reducible intro hc; have hC := And.intro hC hc))
    (first | apply pend rs26 | apply pendN rs26); (focus (simp only [go_sem, Int.natCast_zero]; first | done | exact rfl)); (focus (simp only [go_sem, Int.natCast_zero]; first | done | exact rfl))
  have e0 : actsE l = actsL l 0 := by simp [actsE, h6]
  have e1 : decide ((60 : Int) < (l.length : Int)) = false := by simp; omega
  obtain ⟨R, hR⟩ : ∃ R, actsL l 0 = R := ⟨_, rfl⟩
  rw [e0, hR]
  (refine ppure_of_T ok26 (by simp only [List.length_cons, List.length_nil]; decide) ?_; refine t_seq ?_)
  (have hA := e1; have hP := True.intro; have hNE := True.intro; have hC := True.intro; repeat' first
      | with_reducible first | refine k_seq ?_ | refine t_seq ?_ | refine t_reg ?_ | refine t_nil ?_ | refine t_skip ?_ | refine t_block ?_
      | refine ae_val ?_
      | refine a_cond ?_ ?_
      | (with_reducible intro hc; with_reducible exact Bool.noConfusion hc)
      | (with_reducible intro hc; have hC := And.intro hC hc))
  refine t_loopX (fun (k0 : Nat) (E0 : Nat → PV) (H0 : Hp) => ∃ (i : Nat), i + k0 = l.length ∧ actsL (l.drop i) i = R ∧ E0 4 = .int .i64 (i : Int) ∧ H0 = hp []) (l.length) ?_ ?_
  intro Ng
  refine ⟨_, _, wkE_id, rowsok_nil, 0, (by first | omega | rfl | assumption | (simp (maxDischargeDepth := 8) only [go_sem, Int.natCast_zero, hNE]; first | done | rfl | assumption | omega)), ?_, (by simp (maxDischargeDepth := 8) only [go_sem, Int.natCast_zero, hNE, List.length_append, List.length_cons, List.length_nil, Nat.zero_add]; first | done | rfl), rfl⟩
  · exact hR
  rintro k0 E0 H0 hfr0 ⟨i, hk, hr, h0_4, rfl⟩
  have e0_0 := hfr0 0 rfl
  simp (maxDischargeDepth := 8) only [go_sem, Int.natCast_zero, hNE] at e0_0
  clear hfr0
  by_cases hi : i < l.length
  · obtain ⟨x, hx, hdr⟩ := at_list hi
    have hlt := lt_int hi
    have hw := wrap_next hi hl
    have hge : (0 : Int) ≤ (i : Int) := by omega
    have h31 := p31 x
    rw [hdr, actsL] at hr
    by_cases hz : actE x = 0
    · have ez := dnz0 hz
      rw [if_pos hz] at hr
      simp only [encAc] at h31
      (have hA := And.intro e0_0 (And.intro h0_4 (And.intro hlt (And.intro hge (And.intro hx (ez))))); have hP := And.intro h31 (True.intro); have hNE := True.intro; have hC := True.intro; repeat' first
          | with_reducible first | refine k_seq ?_ | refine t_seq ?_ | refine t_reg ?_ | refine t_nil ?_ | refine t_skip ?_ | refine k_blk ?_ | refine t_block ?_
          | refine ae_val ?_
          | refine ae_callS ?_
          | refine a_cond ?_ ?_
          | (with_reducible intro hc; with_reducible exact Bool.noConfusion hc)
          | (with_reducible intro hc; have hC := And.intro hC hc))
      refine k_invX (k0 - 1) (by omega) ?_
      intro Ng
      refine ⟨_, _, wkE_id, rowsok_nil, i + 1, (by first | omega | (simp only [List.length_append, List.length_cons, List.length_nil, List.length_drop, List.length_take, List.length_map]; omega)), ?_, (by simp (maxDischargeDepth := 8) only [go_sem, e0_0, h0_4, hw, hNE, List.length_append, List.length_cons, List.length_nil, Nat.zero_add]; first | done | rfl), rfl⟩
      exact hr
    · have ez := dnz1 hz
      rw [if_neg hz] at hr
      subst hr
      simp only [encAc] at h31
      (have hA := And.intro e0_0 (And.intro h0_4 (And.intro hlt (And.intro hge (And.intro hx (ez))))); have hP := And.intro h31 (True.intro); have hNE := True.intro; have hC := True.intro; repeat' first
          | with_reducible first | refine k_seq ?_ | refine t_seq ?_ | refine t_reg ?_ | refine t_nil ?_ | refine t_skip ?_ | refine t_ret ?_ | refine k_seq_ret ?_ | refine k_blk_ret ?_ | refine k_invX_ret ?_ | refine t_block ?_
          | refine ae_val ?_
          | refine ae_callS ?_
          | refine a_cond ?_ ?_
          | (with_reducible intro hc; with_reducible exact Bool.noConfusion hc)
          | (with_reducible intro hc; have hC := And.intro hC hc))
      (first | apply pend rs26 | apply pendN rs26); (focus (simp (maxDischargeDepth := 8) only [hNE, go_sem, e0_0, h0_4]; first | done | exact rfl)); (focus (simp (maxDischargeDepth := 8) only [hNE, go_sem, e0_0, h0_4]; first | done | exact rfl))
  · have hlt := nlt_int hi
    have hil : i = l.length := by omega
    rw [hil, List.drop_length, actsL] at hr
    subst hr
    (have hA := And.intro e0_0 (And.intro h0_4 (hlt)); have hP := True.intro; have hNE := True.intro; have hC := True.intro; repeat' first
        | with_reducible first | refine k_seq ?_ | refine t_seq ?_ | refine t_reg ?_ | refine t_nil ?_ | refine t_ret ?_ | refine t_exit ?_ | refine k_seq_exit ?_ | refine k_blk_exit ?_ | refine k_invX_exit ?_
        | refine ae_val ?_
        | refine a_cond ?_ ?_
        | (with_reducible intro hc; with_reducible exact Bool.noConfusion hc)
        | (with_reducible intro hc; have hC := And.intro hC hc))
    (first | apply pend rs26 | apply pendN rs26); (focus (simp only [go_sem, e0_0, h0_4, Int.natCast_zero]; first | done | exact rfl)); (focus (simp only [go_sem, e0_0, h0_4, Int.natCast_zero]; first | done | exact rfl))
end Go.Proofs.Ythdgdngdfijfhaa
namespace Go.Proofs.Ythdgdngdfijfhaa
open Go.RowKit Go.Proofs
set_option linter.unusedVariables false
set_option linter.unusedSimpArgs false
attribute [local irreducible] PPure CallN Tops TopsDm T
theorem unitE_acc {u : Un} (h : ¬ accF u.access u.width = 0) : unitE u = accF u.access u.width := by
  have : unitE1 u = accF u.access u.width := by simp [unitE1, orE, h]
  rw [unitE, this, if_neg h]
theorem unitE_large {u : Un} (h : accF u.access u.width = 0) (h2 : largeB u = true) : unitE u = 8 := by
  have : unitE1 u = 8 := by simp [unitE1, orE, h, rfs, h2]
  rw [unitE, this]; rfl
theorem unitE_form {u : Un} (h : accF u.access u.width = 0) (h2 : largeB u = false) (h3 : formB u = true) : unitE u = 3 := by
  have : unitE1 u = 3 := by simp [unitE1, orE, h, rfs, h2, h3]
  rw [unitE, this]; rfl
theorem unitE_rec {u : Un} (h : accF u.access u.width = 0) (h2 : largeB u = false) (h3 : formB u = false) (h4 : ¬ recsE u = 0) : unitE u = recsE u := by
  have : unitE1 u = 0 := by simp [unitE1, orE, h, rfs, h2, h3]
  rw [unitE, this, if_pos rfl]; simp [orE, h4]
theorem unitE_pos {u : Un} (h : accF u.access u.width = 0) (h2 : largeB u = false) (h3 : formB u = false) (h4 : recsE u = 0) : unitE u = rfs (!btw u.pos 0 (roomF u)) 2 := by
  have : unitE1 u = 0 := by simp [unitE1, orE, h, rfs, h2, h3]
  rw [unitE, this, if_pos rfl]
  cases btw u.pos 0 (roomF u) <;> simp [orE, rfs, h4]
theorem large_split {u : Un} (h : largeB u = false) : decide (60 < (u.recs.length : Int)) = false ∧ decide (4000 < (u.bytes.length : Int)) = false := by
  simpa [largeB] using h
attribute [local go_sem] cast0 encS Int.toNat_natCast List.getElem?_map Option.map_some encB in
set_option maxHeartbeats 4000000 in
theorem p15 (u : Un) (hl : u.recs.length ≤ 1000) (hl2 : u.there.length ≤ 1000) : PPure Try.prog 15 [encU u] (.int .i64 (unitE u)) := by
  have h1 := p52 u.access u.width
  by_cases hac : ¬ accF u.access u.width = 0
  · have e1 := dnz1 hac
    rw [unitE_acc hac]
    simp only [encU]
    (refine ppure_of_T ok15 (by simp only [List.length_cons, List.length_nil]; decide) ?_; refine t_seq ?_)
    (have hA := e1; have hP := And.intro h1 (True.intro); have hNE := True.intro; have hC := True.intro; repeat' first
        | with_reducible first | refine k_seq ?_ | refine t_seq ?_ | refine t_reg ?_ | refine t_nil ?_ | refine t_ret ?_ | refine k_seq_ret ?_
        | refine ae_val ?_
        | refine ae_callS ?_
        | refine ae_box ?_
        | refine a_cond ?_ ?_
        | (with_reducible intro hc; with_reducible exact Bool.noConfusion hc)
        | (with_reducible intro hc; have hC := And.intro hC hc))
    (first | apply pend rs15 | apply pendN rs15); (focus (simp (maxDischargeDepth := 8) only [hNE, go_sem]; first | done | exact rfl)); (focus (simp (maxDischargeDepth := 8) only [hNE, go_sem]; first | done | exact rfl))
  have hac := Decidable.not_not.1 hac
  have e1 := dnz0 hac
  by_cases hlg : largeB u = true
  · rw [unitE_large hac hlg]
    simp only [encU]
    unfold largeB at hlg
    by_cases hr : decide (60 < (u.recs.length : Int)) = true
    · (refine ppure_of_T ok15 (by simp only [List.length_cons, List.length_nil]; decide) ?_; refine t_seq ?_)
      (have hA := And.intro e1 (hr); have hP := And.intro h1 (True.intro); have hNE := True.intro; have hC := True.intro; repeat' first
          | with_reducible first | refine k_seq ?_ | refine t_seq ?_ | refine t_reg ?_ | refine t_nil ?_ | refine t_skip ?_ | refine t_ret ?_ | refine k_seq_ret ?_
          | refine ae_val ?_
          | refine ae_callS ?_
          | refine ae_gval ?_
          | refine ae_box ?_
          | refine a_cond ?_ ?_
          | (with_reducible intro hc; with_reducible exact Bool.noConfusion hc)
          | (with_reducible intro hc; have hC := And.intro hC hc))
      (first | apply pend rs15 | apply pendN rs15); (focus (simp (maxDischargeDepth := 8) only [hNE, go_sem]; first | done | exact rfl)); (focus (simp (maxDischargeDepth := 8) only [hNE, go_sem]; first | done | exact rfl))
    · have hr : decide (60 < (u.recs.length : Int)) = false := by simpa using hr
      rw [hr, Bool.false_or] at hlg
      (refine ppure_of_T ok15 (by simp only [List.length_cons, List.length_nil]; decide) ?_; refine t_seq ?_)
      (have hA := And.intro e1 (And.intro hr (hlg)); have hP := And.intro h1 (True.intro); have hNE := True.intro; have hC := True.intro; repeat' first
          | with_reducible first | refine k_seq ?_ | refine t_seq ?_ | refine t_reg ?_ | refine t_nil ?_ | refine t_skip ?_ | refine t_ret ?_ | refine k_seq_ret ?_
          | refine ae_val ?_
          | refine ae_callS ?_
          | refine ae_gval ?_
          | refine ae_box ?_
          | refine a_cond ?_ ?_
          | (with_reducible intro hc; with_reducible exact Bool.noConfusion hc)
          | (with_reducible intro hc; have hC := And.intro hC hc))
      (first | apply pend rs15 | apply pendN rs15); (focus (simp (maxDischargeDepth := 8) only [hNE, go_sem]; first | done | exact rfl)); (focus (simp (maxDischargeDepth := 8) only [hNE, go_sem]; first | done | exact rfl))
  have hlg : largeB u = false := by simpa using hlg
  obtain ⟨l1, l2⟩ := large_split hlg
  have ha : u.access = 0 ∨ u.access = 1 ∨ u.access = 2 := by
    unfold accF at hac
    rw [orE_zero] at hac
    have := hac _ List.mem_cons_self
    rw [rfs_zero (by decide)] at this
    simp at this
    rw [btw_true] at this; omega
  rcases ha with ha | ha | ha
  · -- sequential
    by_cases hb : (u.bytes == []) = true
    · by_cases ht : 0 < (u.there.length : Int)
      · have ht2 : decide (0 < (u.there.length : Int)) = true := by simpa using ht
        have hf : formB u = true := by simp [formB, ha, hb]; omega
        rw [unitE_form hac hlg hf]
        simp only [encU, ha] at h1 e1 ⊢
        (refine ppure_of_T ok15 (by simp only [List.length_cons, List.length_nil]; decide) ?_; refine t_seq ?_)
        (have hA := And.intro e1 (And.intro l1 (And.intro l2 (And.intro hb (ht2)))); have hP := And.intro h1 (True.intro); have hNE := True.intro; have hC := True.intro; repeat' first
            | with_reducible first | refine k_seq ?_ | refine t_seq ?_ | refine t_reg ?_ | refine t_nil ?_ | refine t_skip ?_ | refine t_ret ?_ | refine k_seq_ret ?_
            | refine ae_val ?_
            | refine ae_callS ?_
            | refine ae_gval ?_
            | refine ae_gno ?_
            | refine ae_gskip ?_
            | refine ae_box ?_
            | refine a_cond ?_ ?_
            | (with_reducible intro hc; with_reducible exact Bool.noConfusion hc)
            | (with_reducible intro hc; have hC := And.intro hC hc))
        (first | apply pend rs15 | apply pendN rs15); (focus (simp (maxDischargeDepth := 8) only [hNE, go_sem]; first | done | exact rfl)); (focus (simp (maxDischargeDepth := 8) only [hNE, go_sem]; first | done | exact rfl))
      · have ht2 : decide (0 < (u.there.length : Int)) = false := by simpa using ht
        have ht0 : u.there = [] := List.eq_nil_of_length_eq_zero (by omega)
        have hf : formB u = false := by simp [formB, ha, hb, ht0]
        obtain ⟨R, hR⟩ : ∃ R, recsL u u.recs 0 = R := ⟨_, rfl⟩
        have hrec : recsE u = R := by simp [recsE, ha, hR, thereE, ht0]; intro h; exact h.symm
        have h53 := p53 u.pos 0 ((u.recs.length : Int) + 1)
        have w1 : IntKind.i64.wrap ((u.recs.length : Int) + 1) = (u.recs.length : Int) + 1 := by rw [IntKind.wrap_i64]; omega
        have hroom : roomF u = (u.recs.length : Int) + 1 := by simp [roomF, ha]
        have hfin : R = 0 → unitE u = rfs (!btw u.pos 0 ((u.recs.length : Int) + 1)) 2 := fun h => by rw [unitE_pos hac hlg hf (by rw [hrec]; exact h), hroom]
        have hbad : ¬ R = 0 → unitE u = R := fun h => by rw [unitE_rec hac hlg hf (by rw [hrec]; exact h), hrec]
        generalize unitE u = E at hfin hbad ⊢
        simp only [encU, ha, ht0, List.map_nil] at h1 e1 ⊢
        (refine ppure_of_T ok15 (by simp only [List.length_cons, List.length_nil]; decide) ?_; refine t_seq ?_)
        (have hA := And.intro e1 (And.intro l1 (And.intro l2 (hb))); have hP := And.intro h1 (True.intro); have hNE := True.intro; have hC := True.intro; repeat' first
            | with_reducible first | refine k_seq ?_ | refine t_seq ?_ | refine t_reg ?_ | refine t_nil ?_ | refine t_skip ?_ | refine t_block ?_
            | refine ae_val ?_
            | refine ae_callS ?_
            | refine ae_gval ?_
            | refine ae_gno ?_
            | refine ae_box ?_
            | refine a_cond ?_ ?_
            | (with_reducible intro hc; with_reducible exact Bool.noConfusion hc)
            | (with_reducible intro hc; have hC := And.intro hC hc))
        refine t_loopX (fun (k0 : Nat) (E0 : Nat → PV) (H0 : Hp) => ∃ (i : Nat), i + k0 = u.recs.length ∧ recsL u (u.recs.drop i) i = R ∧ E0 6 = .int .i64 (i : Int) ∧ H0 = hp []) (u.recs.length) ?_ ?_
        intro Ng
        refine ⟨_, _, wkE_id, rowsok_nil, 0, (by first | omega | rfl | assumption | (simp (maxDischargeDepth := 8) only [go_sem, cast0, hNE]; first | done | rfl | assumption | omega)), ?_, (by simp (maxDischargeDepth := 8) only [go_sem, cast0, hNE, List.length_append, List.length_cons, List.length_nil, Nat.zero_add]; first | done | rfl), rfl⟩
        · exact hR
        rintro k0 E0 H0 hfr0 ⟨i, hk, hr, h0_6, rfl⟩
        have e0_1 := hfr0 1 rfl; have e0_4 := hfr0 4 rfl; have e0_5 := hfr0 5 rfl
        simp (maxDischargeDepth := 8) only [go_sem, cast0, hNE] at e0_1 e0_4 e0_5
        clear hfr0
        by_cases hi : i < u.recs.length
        · obtain ⟨s, hx, hdr⟩ := at_list hi
          have hlt := lt_int hi
          have hw := wrap_next hi hl
          have hge : (0 : Int) ≤ (i : Int) := by omega
          rw [hdr, recsL] at hr
          have hre : recE u s ((u.there[i]?).getD false) = rfs (decide (200 < (s.length : Int))) 8 := by simp [recE, ha]
          rw [hre] at hr
          by_cases h2 : 200 < (s.length : Int)
          · have h2d : decide (200 < (s.length : Int)) = true := by simpa using h2
            rw [h2d] at hr
            have hR8 : R = 8 := by rw [← hr]; rfl
            have hE := hbad (by rw [hR8]; decide)
            rw [hE, hR8]
            (have hA := And.intro e0_1 (And.intro e0_4 (And.intro e0_5 (And.intro h0_6 (And.intro hlt (And.intro hge (And.intro hx (h2d))))))); have hP := True.intro; have hNE := True.intro; have hC := True.intro; repeat' first
                | with_reducible first | refine k_seq ?_ | refine t_seq ?_ | refine t_reg ?_ | refine t_nil ?_ | refine t_skip ?_ | refine t_ret ?_ | refine k_seq_ret ?_ | refine k_blk_ret ?_ | refine k_invX_ret ?_ | refine t_block ?_
                | refine ae_val ?_
                | refine ae_gval ?_
                | refine a_cond ?_ ?_
                | (with_reducible intro hc; with_reducible exact Bool.noConfusion hc)
                | (with_reducible intro hc; have hC := And.intro hC hc))
            (first | apply pend rs15 | apply pendN rs15); (focus (simp (maxDischargeDepth := 8) only [hNE, go_sem, e0_1, e0_4, e0_5, h0_6]; first | done | exact rfl)); (focus (simp (maxDischargeDepth := 8) only [hNE, go_sem, e0_1, e0_4, e0_5, h0_6]; first | done | exact rfl))
          · have h2d : decide (200 < (s.length : Int)) = false := by simpa using h2
            rw [h2d, if_pos (show rfs false 8 = 0 from rfl)] at hr
            (have hA := And.intro e0_1 (And.intro e0_4 (And.intro e0_5 (And.intro h0_6 (And.intro hlt (And.intro hge (And.intro hx (h2d))))))); have hP := True.intro; have hNE := True.intro; have hC := True.intro; repeat' first
                | ((with_reducible apply te_drwA); (focus (simp (maxDischargeDepth := 8) only [effFlA, List.map_cons, List.map_nil]; exact rfl)); (focus decide +kernel))
                | with_reducible first | refine k_seq ?_ | refine t_seq ?_ | refine t_reg ?_ | refine t_nil ?_ | refine t_skip ?_ | refine k_blk ?_ | refine t_block ?_ | refine m_nil ?_
                | refine ae_val ?_
                | refine ae_gval ?_
                | refine be_val ?_
                | refine be_gval ?_
                | refine be_gno ?_
                | refine be_gskip ?_
                | refine a_cond ?_ ?_
                | (with_reducible intro hc; with_reducible exact Bool.noConfusion hc)
                | (with_reducible intro hc; have hC := And.intro hC hc))
            refine k_invX (k0 - 1) (by omega) ?_
            intro Ng
            refine ⟨_, _, wkE_id, rowsok_nil, i + 1, (by first | omega | (simp only [List.length_append, List.length_cons, List.length_nil, List.length_drop, List.length_take, List.length_map]; omega)), ?_, (by simp (maxDischargeDepth := 8) only [go_sem, e0_1, e0_4, e0_5, h0_6, hw, hNE, List.length_append, List.length_cons, List.length_nil, Nat.zero_add]; first | done | rfl), rfl⟩
            exact hr
        · have hlt := nlt_int hi
          have hil : i = u.recs.length := by omega
          rw [hil, List.drop_length, recsL] at hr
          have hE := hfin hr.symm
          cases hbt : btw u.pos 0 ((u.recs.length : Int) + 1) with
          | true =>
            rw [hbt] at hE h53
            rw [hE]
            (have hA := And.intro e0_1 (And.intro e0_4 (And.intro e0_5 (And.intro h0_6 (And.intro hlt (w1))))); have hP := And.intro h53 (True.intro); have hNE := True.intro; have hC := True.intro; repeat' first
                | with_reducible first | refine k_seq ?_ | refine t_seq ?_ | refine t_reg ?_ | refine t_nil ?_ | refine t_skip ?_ | refine t_ret ?_ | refine t_exit ?_ | refine k_seq_exit ?_ | refine k_blk_exit ?_ | refine k_invX_exit ?_
                | refine ae_val ?_
                | refine ae_callS ?_
                | refine ae_gval ?_
                | refine ae_gno ?_
                | refine a_cond ?_ ?_
                | (with_reducible intro hc; with_reducible exact Bool.noConfusion hc)
                | (with_reducible intro hc; have hC := And.intro hC hc))
            (first | apply pend rs15 | apply pendN rs15); (focus (simp (maxDischargeDepth := 8) only [hNE, go_sem, e0_1, e0_4, e0_5, h0_6, rfs]; first | done | exact rfl)); (focus (simp (maxDischargeDepth := 8) only [hNE, go_sem, e0_1, e0_4, e0_5, h0_6, rfs]; first | done | exact rfl))
          | false =>
            rw [hbt] at hE h53
            rw [hE]
            (have hA := And.intro e0_1 (And.intro e0_4 (And.intro e0_5 (And.intro h0_6 (And.intro hlt (w1))))); have hP := And.intro h53 (True.intro); have hNE := True.intro; have hC := True.intro; repeat' first
                | with_reducible first | refine k_seq ?_ | refine t_seq ?_ | refine t_reg ?_ | refine t_nil ?_ | refine t_skip ?_ | refine t_ret ?_ | refine t_exit ?_ | refine k_seq_exit ?_ | refine k_seq_ret ?_ | refine k_blk_exit ?_ | refine k_invX_exit ?_
                | refine ae_val ?_
                | refine ae_callS ?_
                | refine ae_gval ?_
                | refine ae_gno ?_
                | refine a_cond ?_ ?_
                | (with_reducible intro hc; with_reducible exact Bool.noConfusion hc)
                | (with_reducible intro hc; have hC := And.intro hC hc))
            (first | apply pend rs15 | apply pendN rs15); (focus (simp (maxDischargeDepth := 8) only [hNE, go_sem, e0_1, e0_4, e0_5, h0_6, rfs]; first | done | exact rfl)); (focus (simp (maxDischargeDepth := 8) only [hNE, go_sem, e0_1, e0_4, e0_5, h0_6, rfs]; first | done | exact rfl))
    · have hb : (u.bytes == []) = false := by simpa using hb
      have hf : formB u = true := by simp [formB, ha, hb]
      rw [unitE_form hac hlg hf]
      simp only [encU, ha] at h1 e1 ⊢
      (refine ppure_of_T ok15 (by simp only [List.length_cons, List.length_nil]; decide) ?_; refine t_seq ?_)
      (have hA := And.intro e1 (And.intro l1 (And.intro l2 (hb))); have hP := And.intro h1 (True.intro); have hNE := True.intro; have hC := True.intro; repeat' first
          | with_reducible first | refine k_seq ?_ | refine t_seq ?_ | refine t_reg ?_ | refine t_nil ?_ | refine t_skip ?_ | refine t_ret ?_ | refine k_seq_ret ?_
          | refine ae_val ?_
          | refine ae_callS ?_
          | refine ae_gval ?_
          | refine ae_gno ?_
          | refine ae_gskip ?_
          | refine ae_box ?_
          | refine a_cond ?_ ?_
          | (with_reducible intro hc; with_reducible exact Bool.noConfusion hc)
          | (with_reducible intro hc; have hC := And.intro hC hc))
      (first | apply pend rs15 | apply pendN rs15); (focus (simp (maxDischargeDepth := 8) only [hNE, go_sem]; first | done | exact rfl)); (focus (simp (maxDischargeDepth := 8) only [hNE, go_sem]; first | done | exact rfl))
  · -- direct
    have hnr : ¬ ((0 : Int) < 0) := by decide
    by_cases hb : (u.bytes == []) = true
    · cases hen : u.ended with
      | true =>
        have hf : formB u = true := by simp [formB, ha, hb, hen]
        rw [unitE_form hac hlg hf]
        simp only [encU, ha, hen] at h1 e1 ⊢
        (refine ppure_of_T ok15 (by simp only [List.length_cons, List.length_nil]; decide) ?_; refine t_seq ?_)
        (have hA := And.intro e1 (And.intro l1 (And.intro l2 (hb))); have hP := And.intro h1 (True.intro); have hNE := True.intro; have hC := True.intro; repeat' first
            | with_reducible first | refine k_seq ?_ | refine t_seq ?_ | refine t_reg ?_ | refine t_nil ?_ | refine t_skip ?_ | refine t_ret ?_ | refine k_seq_ret ?_
            | refine ae_val ?_
            | refine ae_callS ?_
            | refine ae_gval ?_
            | refine ae_gno ?_
            | refine ae_box ?_
            | refine a_cond ?_ ?_
            | (with_reducible intro hc; with_reducible exact Bool.noConfusion hc)
            | (with_reducible intro hc; have hC := And.intro hC hc))
        (first | apply pend rs15 | apply pendN rs15); (focus (simp (maxDischargeDepth := 8) only [hNE, go_sem]; first | done | exact rfl)); (focus (simp (maxDischargeDepth := 8) only [hNE, go_sem]; first | done | exact rfl))
      | false =>
        have hf : formB u = false := by simp [formB, ha, hb, hen]
        by_cases hn : (u.there.length : Int) = (u.recs.length : Int)
        · have en : decide (¬ (u.there.length : Int) = (u.recs.length : Int)) = false := by simp [hn]
          have hn2 : u.there.length = u.recs.length := by omega
          obtain ⟨R, hR⟩ : ∃ R, recsL u u.recs 0 = R := ⟨_, rfl⟩
          have hrec : recsE u = if R = 0 then thereE u else R := by simp [recsE, ha, hR, hn2]
          have h53 := p53 u.pos 0 0
          have hroom : roomF u = 0 := by simp [roomF, ha]
          have hbad : ¬ R = 0 → unitE u = R := fun h => by
            have : recsE u = R := by rw [hrec, if_neg h]
            rw [unitE_rec hac hlg hf (by rw [this]; exact h), this]
          have hthr : R = 0 → thereE u = 21 → unitE u = 21 := fun h h2 => by
            have : recsE u = 21 := by rw [hrec, if_pos h, h2]
            rw [unitE_rec hac hlg hf (by rw [this]; decide), this]
          have hfin : R = 0 → thereE u = 0 → unitE u = rfs (!btw u.pos 0 0) 2 := fun h h2 => by
            rw [unitE_pos hac hlg hf (by rw [hrec, if_pos h, h2]), hroom]
          generalize unitE u = E at hfin hbad hthr ⊢
          simp only [encU, ha, hen] at h1 e1 ⊢
          (refine ppure_of_T ok15 (by simp only [List.length_cons, List.length_nil]; decide) ?_; refine t_seq ?_)
          (have hA := And.intro e1 (And.intro l1 (And.intro l2 (And.intro hb (en)))); have hP := And.intro h1 (True.intro); have hNE := True.intro; have hC := True.intro; repeat' first
              | with_reducible first | refine k_seq ?_ | refine t_seq ?_ | refine t_reg ?_ | refine t_nil ?_ | refine t_skip ?_ | refine t_block ?_
              | refine ae_val ?_
              | refine ae_callS ?_
              | refine ae_gval ?_
              | refine ae_gno ?_
              | refine ae_box ?_
              | refine a_cond ?_ ?_
              | (with_reducible intro hc; with_reducible exact Bool.noConfusion hc)
              | (with_reducible intro hc; have hC := And.intro hC hc))
          refine t_loopX (fun (k0 : Nat) (E0 : Nat → PV) (H0 : Hp) => ∃ (i : Nat), i + k0 = u.recs.length ∧ recsL u (u.recs.drop i) i = R ∧ E0 6 = .int .i64 (i : Int) ∧ H0 = hp []) (u.recs.length) ?_ ?_
          intro Ng
          refine ⟨_, _, wkE_id, rowsok_nil, 0, (by first | omega | rfl | assumption | (simp (maxDischargeDepth := 8) only [go_sem, cast0, hNE]; first | done | rfl | assumption | omega)), ?_, (by simp (maxDischargeDepth := 8) only [go_sem, cast0, hNE, List.length_append, List.length_cons, List.length_nil, Nat.zero_add]; first | done | rfl), rfl⟩
          · exact hR
          rintro k0 E0 H0 hfr0 ⟨i, hk, hr, h0_6, rfl⟩
          have e0_1 := hfr0 1 rfl; have e0_4 := hfr0 4 rfl; have e0_5 := hfr0 5 rfl
          simp (maxDischargeDepth := 8) only [go_sem, cast0, hNE] at e0_1 e0_4 e0_5
          clear hfr0
          by_cases hi : i < u.recs.length
          · obtain ⟨s, hx, hdr⟩ := at_list hi
            obtain ⟨t, hx2, hdr2⟩ := at_list (xs := u.there) (i := i) (by omega)
            have hlt := lt_int hi
            have hlt2 : (i : Int) < (u.there.length : Int) := by omega
            have hw := wrap_next hi hl
            have hge : (0 : Int) ≤ (i : Int) := by omega
            rw [hdr, recsL] at hr
            have hre : recE u s ((u.there[i]?).getD false) = rfs (decide (¬ (s.length : Int) = (if t = true then u.width else 0))) 10 := by simp [recE, ha, hx2]
            rw [hre] at hr
            cases t with
            | true =>
              by_cases h2 : (s.length : Int) = u.width
              · have h2d : decide (¬ (s.length : Int) = u.width) = false := by simp [h2]
                rw [if_pos (by simp [rfs, h2])] at hr
                (have hA := And.intro e0_1 (And.intro e0_4 (And.intro e0_5 (And.intro h0_6 (And.intro hlt (And.intro hge (And.intro hx (And.intro hx2 (And.intro hlt2 (h2d))))))))); have hP := True.intro; have hNE := True.intro; have hC := True.intro; repeat' first
                    | ((with_reducible apply te_drwA); (focus (simp (maxDischargeDepth := 8) only [effFlA, List.map_cons, List.map_nil]; exact rfl)); (focus decide +kernel))
                    | with_reducible first | refine k_seq ?_ | refine t_seq ?_ | refine t_reg ?_ | refine t_nil ?_ | refine t_skip ?_ | refine k_blk ?_ | refine t_block ?_ | refine m_nil ?_
                    | refine ae_val ?_
                    | refine ae_gval ?_
                    | refine ae_gno ?_
                    | refine be_val ?_
                    | refine be_gval ?_
                    | refine be_gno ?_
                    | refine a_cond ?_ ?_
                    | (with_reducible intro hc; with_reducible exact Bool.noConfusion hc)
                    | (with_reducible intro hc; have hC := And.intro hC hc))
                refine k_invX (k0 - 1) (by omega) ?_
                intro Ng
                refine ⟨_, _, wkE_id, rowsok_nil, i + 1, (by first | omega | (simp only [List.length_append, List.length_cons, List.length_nil, List.length_drop, List.length_take, List.length_map]; omega)), ?_, (by simp (maxDischargeDepth := 8) only [go_sem, e0_1, e0_4, e0_5, h0_6, hw, hNE, List.length_append, List.length_cons, List.length_nil, Nat.zero_add]; first | done | rfl), rfl⟩
                exact hr
              · have h2d : decide (¬ (s.length : Int) = u.width) = true := by simp [h2]
                rw [if_neg (by simp [rfs, h2])] at hr
                have hR8 : R = 10 := by rw [← hr]; simp [rfs, h2]
                have hE := hbad (by rw [hR8]; decide)
                rw [hE, hR8]
                (have hA := And.intro e0_1 (And.intro e0_4 (And.intro e0_5 (And.intro h0_6 (And.intro hlt (And.intro hge (And.intro hx (And.intro hx2 (And.intro hlt2 (h2d))))))))); have hP := True.intro; have hNE := True.intro; have hC := True.intro; repeat' first
                    | ((with_reducible apply te_drwA); (focus (simp (maxDischargeDepth := 8) only [effFlA, List.map_cons, List.map_nil]; exact rfl)); (focus decide +kernel))
                    | with_reducible first | refine k_seq ?_ | refine t_seq ?_ | refine t_reg ?_ | refine t_nil ?_ | refine t_skip ?_ | refine t_ret ?_ | refine k_seq_ret ?_ | refine k_blk_ret ?_ | refine k_invX_ret ?_ | refine t_block ?_ | refine m_nil ?_
                    | refine ae_val ?_
                    | refine ae_gval ?_
                    | refine ae_gno ?_
                    | refine be_val ?_
                    | refine be_gval ?_
                    | refine be_gskip ?_
                    | refine a_cond ?_ ?_
                    | (with_reducible intro hc; with_reducible exact Bool.noConfusion hc)
                    | (with_reducible intro hc; have hC := And.intro hC hc))
                (first | apply pend rs15 | apply pendN rs15); (focus (simp (maxDischargeDepth := 8) only [hNE, go_sem, e0_1, e0_4, e0_5, h0_6]; first | done | exact rfl)); (focus (simp (maxDischargeDepth := 8) only [hNE, go_sem, e0_1, e0_4, e0_5, h0_6]; first | done | exact rfl))
            | false =>
              by_cases h2 : s = []
              · have h2d : (s == []) = true := by simp [h2]
                rw [if_pos (by simp [rfs, h2])] at hr
                (have hA := And.intro e0_1 (And.intro e0_4 (And.intro e0_5 (And.intro h0_6 (And.intro hlt (And.intro hge (And.intro hx (And.intro hx2 (And.intro hlt2 (h2d))))))))); have hP := True.intro; have hNE := True.intro; have hC := True.intro; repeat' first
                    | ((with_reducible apply te_drwA); (focus (simp (maxDischargeDepth := 8) only [effFlA, List.map_cons, List.map_nil]; exact rfl)); (focus decide +kernel))
                    | with_reducible first | refine k_seq ?_ | refine t_seq ?_ | refine t_reg ?_ | refine t_nil ?_ | refine t_skip ?_ | refine k_blk ?_ | refine t_block ?_ | refine m_nil ?_
                    | refine ae_val ?_
                    | refine ae_gval ?_
                    | refine ae_gno ?_
                    | refine be_val ?_
                    | refine be_gval ?_
                    | refine be_gno ?_
                    | refine a_cond ?_ ?_
                    | (with_reducible intro hc; with_reducible exact Bool.noConfusion hc)
                    | (with_reducible intro hc; have hC := And.intro hC hc))
                refine k_invX (k0 - 1) (by omega) ?_
                intro Ng
                refine ⟨_, _, wkE_id, rowsok_nil, i + 1, (by first | omega | (simp only [List.length_append, List.length_cons, List.length_nil, List.length_drop, List.length_take, List.length_map]; omega)), ?_, (by simp (maxDischargeDepth := 8) only [go_sem, e0_1, e0_4, e0_5, h0_6, hw, hNE, List.length_append, List.length_cons, List.length_nil, Nat.zero_add]; first | done | rfl), rfl⟩
                exact hr
              · have h2d : (s == []) = false := by simp [h2]
                rw [if_neg (by simp [rfs, h2])] at hr
                have hR8 : R = 10 := by rw [← hr]; simp [rfs, h2]
                have hE := hbad (by rw [hR8]; decide)
                rw [hE, hR8]
                (have hA := And.intro e0_1 (And.intro e0_4 (And.intro e0_5 (And.intro h0_6 (And.intro hlt (And.intro hge (And.intro hx (And.intro hx2 (And.intro hlt2 (h2d))))))))); have hP := True.intro; have hNE := True.intro; have hC := True.intro; repeat' first
                    | ((with_reducible apply te_drwA); (focus (simp (maxDischargeDepth := 8) only [effFlA, List.map_cons, List.map_nil]; exact rfl)); (focus decide +kernel))
                    | with_reducible first | refine k_seq ?_ | refine t_seq ?_ | refine t_reg ?_ | refine t_nil ?_ | refine t_skip ?_ | refine t_ret ?_ | refine k_seq_ret ?_ | refine k_blk_ret ?_ | refine k_invX_ret ?_ | refine t_block ?_ | refine m_nil ?_
                    | refine ae_val ?_
                    | refine ae_gval ?_
                    | refine ae_gno ?_
                    | refine be_val ?_
                    | refine be_gval ?_
                    | refine be_gno ?_
                    | refine a_cond ?_ ?_
                    | (with_reducible intro hc; with_reducible exact Bool.noConfusion hc)
                    | (with_reducible intro hc; have hC := And.intro hC hc))
                (first | apply pend rs15 | apply pendN rs15); (focus (simp (maxDischargeDepth := 8) only [hNE, go_sem, e0_1, e0_4, e0_5, h0_6]; first | done | exact rfl)); (focus (simp (maxDischargeDepth := 8) only [hNE, go_sem, e0_1, e0_4, e0_5, h0_6]; first | done | exact rfl))
          · have hlt := nlt_int hi
            have hil : i = u.recs.length := by omega
            rw [hil, List.drop_length, recsL] at hr
            by_cases hz : u.there = []
            · have hth : thereE u = 0 := by simp [thereE, hz]
              have hE := hfin hr.symm hth
              have e5 : decide ((0 : Int) < (u.there.length : Int)) = false := by simp [hz]
              cases hbt : btw u.pos 0 0 with
              | true =>
                rw [hbt] at hE h53
                rw [hE]
                (have hA := And.intro e0_1 (And.intro e0_4 (And.intro e0_5 (And.intro h0_6 (And.intro hlt (e5))))); have hP := And.intro h53 (True.intro); have hNE := True.intro; have hC := True.intro; repeat' first
                    | with_reducible first | refine k_seq ?_ | refine t_seq ?_ | refine t_reg ?_ | refine t_nil ?_ | refine t_skip ?_ | refine t_ret ?_ | refine t_exit ?_ | refine k_seq_exit ?_ | refine k_blk_exit ?_ | refine k_invX_exit ?_
                    | refine ae_val ?_
                    | refine ae_callS ?_
                    | refine ae_gval ?_
                    | refine ae_gno ?_
                    | refine a_cond ?_ ?_
                    | (with_reducible intro hc; with_reducible exact Bool.noConfusion hc)
                    | (with_reducible intro hc; have hC := And.intro hC hc))
                (first | apply pend rs15 | apply pendN rs15); (focus (simp (maxDischargeDepth := 8) only [hNE, go_sem, e0_1, e0_4, e0_5, h0_6, rfs]; first | done | exact rfl)); (focus (simp (maxDischargeDepth := 8) only [hNE, go_sem, e0_1, e0_4, e0_5, h0_6, rfs]; first | done | exact rfl))
              | false =>
                rw [hbt] at hE h53
                rw [hE]
                (have hA := And.intro e0_1 (And.intro e0_4 (And.intro e0_5 (And.intro h0_6 (And.intro hlt (e5))))); have hP := And.intro h53 (True.intro); have hNE := True.intro; have hC := True.intro; repeat' first
                    | with_reducible first | refine k_seq ?_ | refine t_seq ?_ | refine t_reg ?_ | refine t_nil ?_ | refine t_skip ?_ | refine t_ret ?_ | refine t_exit ?_ | refine k_seq_exit ?_ | refine k_seq_ret ?_ | refine k_blk_exit ?_ | refine k_invX_exit ?_
                    | refine ae_val ?_
                    | refine ae_callS ?_
                    | refine ae_gval ?_
                    | refine ae_gno ?_
                    | refine a_cond ?_ ?_
                    | (with_reducible intro hc; with_reducible exact Bool.noConfusion hc)
                    | (with_reducible intro hc; have hC := And.intro hC hc))
                (first | apply pend rs15 | apply pendN rs15); (focus (simp (maxDischargeDepth := 8) only [hNE, go_sem, e0_1, e0_4, e0_5, h0_6, rfs]; first | done | exact rfl)); (focus (simp (maxDischargeDepth := 8) only [hNE, go_sem, e0_1, e0_4, e0_5, h0_6, rfs]; first | done | exact rfl))
            · obtain ⟨m, hm⟩ : ∃ m, u.there.length = m + 1 := ⟨u.there.length - 1, by have := List.length_pos_iff.2 hz; omega⟩
              have e5 : decide ((0 : Int) < (u.there.length : Int)) = true := by simp; omega
              have w5 : IntKind.i64.wrap ((u.there.length : Int) - 1) = (m : Int) := by rw [hm, IntKind.wrap_i64]; omega
              have b5 : (0 : Int) ≤ (m : Int) := by omega
              have b6 : (m : Int) < (u.there.length : Int) := by omega
              obtain ⟨t, ht⟩ : ∃ t, u.there[m]? = some t := ⟨u.there[m], List.getElem?_eq_getElem (by omega)⟩
              have hgl : u.there.getLast? = some t := by rw [List.getLast?_eq_getElem?, hm]; exact ht
              cases t with
              | true =>
                have hth : thereE u = 0 := by simp [thereE, hgl]
                have hE := hfin hr.symm hth
                cases hbt : btw u.pos 0 0 with
                | true =>
                  rw [hbt] at hE h53
                  rw [hE]
                  (have hA := And.intro e0_1 (And.intro e0_4 (And.intro e0_5 (And.intro h0_6 (And.intro hlt (And.intro e5 (And.intro w5 (And.intro b5 (And.intro b6 (ht))))))))); have hP := And.intro h53 (True.intro); have hNE := True.intro; have hC := True.intro; repeat' first
                      | with_reducible first | refine k_seq ?_ | refine t_seq ?_ | refine t_reg ?_ | refine t_nil ?_ | refine t_skip ?_ | refine t_ret ?_ | refine t_exit ?_ | refine k_seq_exit ?_ | refine k_blk_exit ?_ | refine k_invX_exit ?_
                      | refine ae_val ?_
                      | refine ae_callS ?_
                      | refine ae_gval ?_
                      | refine a_cond ?_ ?_
                      | (with_reducible intro hc; with_reducible exact Bool.noConfusion hc)
                      | (with_reducible intro hc; have hC := And.intro hC hc))
                  (first | apply pend rs15 | apply pendN rs15); (focus (simp (maxDischargeDepth := 8) only [hNE, go_sem, e0_1, e0_4, e0_5, h0_6, rfs]; first | done | exact rfl)); (focus (simp (maxDischargeDepth := 8) only [hNE, go_sem, e0_1, e0_4, e0_5, h0_6, rfs]; first | done | exact rfl))
                | false =>
                  rw [hbt] at hE h53
                  rw [hE]
                  (have hA := And.intro e0_1 (And.intro e0_4 (And.intro e0_5 (And.intro h0_6 (And.intro hlt (And.intro e5 (And.intro w5 (And.intro b5 (And.intro b6 (ht))))))))); have hP := And.intro h53 (True.intro); have hNE := True.intro; have hC := True.intro; repeat' first
                      | with_reducible first | refine k_seq ?_ | refine t_seq ?_ | refine t_reg ?_ | refine t_nil ?_ | refine t_skip ?_ | refine t_ret ?_ | refine t_exit ?_ | refine k_seq_exit ?_ | refine k_seq_ret ?_ | refine k_blk_exit ?_ | refine k_invX_exit ?_
                      | refine ae_val ?_
                      | refine ae_callS ?_
                      | refine ae_gval ?_
                      | refine a_cond ?_ ?_
                      | (with_reducible intro hc; with_reducible exact Bool.noConfusion hc)
                      | (with_reducible intro hc; have hC := And.intro hC hc))
                  (first | apply pend rs15 | apply pendN rs15); (focus (simp (maxDischargeDepth := 8) only [hNE, go_sem, e0_1, e0_4, e0_5, h0_6, rfs]; first | done | exact rfl)); (focus (simp (maxDischargeDepth := 8) only [hNE, go_sem, e0_1, e0_4, e0_5, h0_6, rfs]; first | done | exact rfl))
              | false =>
                have hE := hthr hr.symm (by simp [thereE, hgl])
                rw [hE]
                (have hA := And.intro e0_1 (And.intro e0_4 (And.intro e0_5 (And.intro h0_6 (And.intro hlt (And.intro e5 (And.intro w5 (And.intro b5 (And.intro b6 (ht))))))))); have hP := True.intro; have hNE := True.intro; have hC := True.intro; repeat' first
                    | with_reducible first | refine k_seq ?_ | refine t_seq ?_ | refine t_reg ?_ | refine t_nil ?_ | refine t_ret ?_ | refine t_exit ?_ | refine k_seq_exit ?_ | refine k_seq_ret ?_ | refine k_blk_exit ?_ | refine k_invX_exit ?_
                    | refine ae_val ?_
                    | refine ae_gval ?_
                    | refine a_cond ?_ ?_
                    | (with_reducible intro hc; with_reducible exact Bool.noConfusion hc)
                    | (with_reducible intro hc; have hC := And.intro hC hc))
                (first | apply pend rs15 | apply pendN rs15); (focus (simp (maxDischargeDepth := 8) only [hNE, go_sem, e0_1, e0_4, e0_5, h0_6]; first | done | exact rfl)); (focus (simp (maxDischargeDepth := 8) only [hNE, go_sem, e0_1, e0_4, e0_5, h0_6]; first | done | exact rfl))
        · have en : decide (¬ (u.there.length : Int) = (u.recs.length : Int)) = true := by simp [hn]
          have hrec : recsE u = 10 := by rw [recsE, if_pos ⟨ha, by omega⟩]
          have hE : unitE u = 10 := by rw [unitE_rec hac hlg hf (by rw [hrec]; decide), hrec]
          rw [hE]
          simp only [encU, ha, hen] at h1 e1 ⊢
          (refine ppure_of_T ok15 (by simp only [List.length_cons, List.length_nil]; decide) ?_; refine t_seq ?_)
          (have hA := And.intro e1 (And.intro l1 (And.intro l2 (And.intro hb (en)))); have hP := And.intro h1 (True.intro); have hNE := True.intro; have hC := True.intro; repeat' first
              | with_reducible first | refine k_seq ?_ | refine t_seq ?_ | refine t_reg ?_ | refine t_nil ?_ | refine t_skip ?_ | refine t_ret ?_ | refine k_seq_ret ?_
              | refine ae_val ?_
              | refine ae_callS ?_
              | refine ae_gval ?_
              | refine ae_gno ?_
              | refine ae_box ?_
              | refine a_cond ?_ ?_
              | (with_reducible intro hc; with_reducible exact Bool.noConfusion hc)
              | (with_reducible intro hc; have hC := And.intro hC hc))
          (first | apply pend rs15 | apply pendN rs15); (focus (simp (maxDischargeDepth := 8) only [hNE, go_sem]; first | done | exact rfl)); (focus (simp (maxDischargeDepth := 8) only [hNE, go_sem]; first | done | exact rfl))
    · have hb : (u.bytes == []) = false := by simpa using hb
      have hf : formB u = true := by simp [formB, ha, hb]
      rw [unitE_form hac hlg hf]
      simp only [encU, ha] at h1 e1 ⊢
      (refine ppure_of_T ok15 (by simp only [List.length_cons, List.length_nil]; decide) ?_; refine t_seq ?_)
      (have hA := And.intro e1 (And.intro l1 (And.intro l2 (hb))); have hP := And.intro h1 (True.intro); have hNE := True.intro; have hC := True.intro; repeat' first
          | with_reducible first | refine k_seq ?_ | refine t_seq ?_ | refine t_reg ?_ | refine t_nil ?_ | refine t_skip ?_ | refine t_ret ?_ | refine k_seq_ret ?_
          | refine ae_val ?_
          | refine ae_callS ?_
          | refine ae_gval ?_
          | refine ae_gno ?_
          | refine ae_gskip ?_
          | refine ae_box ?_
          | refine a_cond ?_ ?_
          | (with_reducible intro hc; with_reducible exact Bool.noConfusion hc)
          | (with_reducible intro hc; have hC := And.intro hC hc))
      (first | apply pend rs15 | apply pendN rs15); (focus (simp (maxDischargeDepth := 8) only [hNE, go_sem]; first | done | exact rfl)); (focus (simp (maxDischargeDepth := 8) only [hNE, go_sem]; first | done | exact rfl))
  · -- stream
    by_cases hr0 : u.recs = []
    · by_cases ht0 : u.there = []
      · cases hen : u.ended with
        | true =>
          have hf : formB u = true := by simp [formB, ha, hen]
          rw [unitE_form hac hlg hf]
          simp only [encU, ha, hen, hr0, ht0, List.map_nil] at h1 e1 ⊢
          (refine ppure_of_T ok15 (by simp only [List.length_cons, List.length_nil]; decide) ?_; refine t_seq ?_)
          (have hA := And.intro e1 (l2); have hP := And.intro h1 (True.intro); have hNE := True.intro; have hC := True.intro; repeat' first
              | with_reducible first | refine k_seq ?_ | refine t_seq ?_ | refine t_reg ?_ | refine t_nil ?_ | refine t_skip ?_ | refine t_ret ?_ | refine k_seq_ret ?_
              | refine ae_val ?_
              | refine ae_callS ?_
              | refine ae_gval ?_
              | refine ae_gno ?_
              | refine ae_box ?_
              | refine a_cond ?_ ?_
              | (with_reducible intro hc; with_reducible exact Bool.noConfusion hc)
              | (with_reducible intro hc; have hC := And.intro hC hc))
          (first | apply pend rs15 | apply pendN rs15); (focus (simp (maxDischargeDepth := 8) only [hNE, go_sem]; first | done | exact rfl)); (focus (simp (maxDischargeDepth := 8) only [hNE, go_sem]; first | done | exact rfl))
        | false =>
          have hf : formB u = false := by simp [formB, ha, hen, hr0, ht0]
          have hrec : recsE u = 0 := by simp [recsE, ha, hr0, recsL, thereE, ht0]
          have hE := unitE_pos hac hlg hf hrec
          have hroom : roomF u = (u.bytes.length : Int) := by simp [roomF, ha]
          have h53 := p53 u.pos 0 (u.bytes.length : Int)
          rw [hroom] at hE
          rw [hE]
          cases hbt : btw u.pos 0 (u.bytes.length : Int) with
          | true =>
            rw [hbt] at h53
            simp only [encU, ha, hen, hr0, ht0, List.map_nil] at h1 e1 ⊢
            (refine ppure_of_T ok15 (by simp only [List.length_cons, List.length_nil]; decide) ?_; refine t_seq ?_)
            (have hA := And.intro e1 (l2); have hP := And.intro h1 (And.intro h53 (True.intro)); have hNE := True.intro; have hC := True.intro; repeat' first
                | with_reducible first | refine k_seq ?_ | refine t_seq ?_ | refine t_reg ?_ | refine t_nil ?_ | refine t_skip ?_ | refine t_block ?_
                | refine ae_val ?_
                | refine ae_callS ?_
                | refine ae_gval ?_
                | refine ae_gno ?_
                | refine ae_box ?_
                | refine a_cond ?_ ?_
                | (with_reducible intro hc; with_reducible exact Bool.noConfusion hc)
                | (with_reducible intro hc; have hC := And.intro hC hc))
            refine t_loopX (fun (k0 : Nat) (E0 : Nat → PV) (H0 : Hp) => ∃ (i : Nat), i = 0 ∧ k0 = 0 ∧ E0 6 = .int .i64 (i : Int) ∧ H0 = hp []) (0) ?_ ?_
            intro Ng
            refine ⟨_, _, wkE_id, rowsok_nil, 0, (by first | omega | rfl | assumption | (simp (maxDischargeDepth := 8) only [go_sem, cast0, hNE]; first | done | rfl | assumption | omega)), (by first | omega | rfl | assumption | (simp (maxDischargeDepth := 8) only [go_sem, cast0, hNE]; first | done | rfl | assumption | omega)), (by simp (maxDischargeDepth := 8) only [go_sem, cast0, hNE, List.length_append, List.length_cons, List.length_nil, Nat.zero_add]; first | done | rfl), rfl⟩
            rintro k0 E0 H0 hfr0 ⟨i, hk, hk2, h0_6, rfl⟩
            have e0_1 := hfr0 1 rfl; have e0_4 := hfr0 4 rfl; have e0_5 := hfr0 5 rfl
            simp (maxDischargeDepth := 8) only [go_sem, cast0, hNE] at e0_1 e0_4 e0_5
            clear hfr0
            subst hk
            (have hA := And.intro e0_1 (And.intro e0_4 (And.intro e0_5 (h0_6))); have hP := And.intro h53 (True.intro); have hNE := True.intro; have hC := True.intro; repeat' first
                | with_reducible first | refine k_seq ?_ | refine t_seq ?_ | refine t_reg ?_ | refine t_nil ?_ | refine t_skip ?_ | refine t_ret ?_ | refine t_exit ?_ | refine k_seq_exit ?_ | refine k_blk_exit ?_ | refine k_invX_exit ?_
                | refine ae_val ?_
                | refine ae_callS ?_
                | refine ae_gval ?_
                | refine ae_gno ?_
                | refine a_cond ?_ ?_
                | (with_reducible intro hc; with_reducible exact Bool.noConfusion hc)
                | (with_reducible intro hc; have hC := And.intro hC hc))
            (first | apply pend rs15 | apply pendN rs15); (focus (simp (maxDischargeDepth := 8) only [hNE, go_sem, e0_1, e0_4, e0_5, h0_6, rfs]; first | done | exact rfl)); (focus (simp (maxDischargeDepth := 8) only [hNE, go_sem, e0_1, e0_4, e0_5, h0_6, rfs]; first | done | exact rfl))
          | false =>
            rw [hbt] at h53
            simp only [encU, ha, hen, hr0, ht0, List.map_nil] at h1 e1 ⊢
            (refine ppure_of_T ok15 (by simp only [List.length_cons, List.length_nil]; decide) ?_; refine t_seq ?_)
            (have hA := And.intro e1 (l2); have hP := And.intro h1 (And.intro h53 (True.intro)); have hNE := True.intro; have hC := True.intro; repeat' first
                | with_reducible first | refine k_seq ?_ | refine t_seq ?_ | refine t_reg ?_ | refine t_nil ?_ | refine t_skip ?_ | refine t_block ?_
                | refine ae_val ?_
                | refine ae_callS ?_
                | refine ae_gval ?_
                | refine ae_gno ?_
                | refine ae_box ?_
                | refine a_cond ?_ ?_
                | (with_reducible intro hc; with_reducible exact Bool.noConfusion hc)
                | (with_reducible intro hc; have hC := And.intro hC hc))
            refine t_loopX (fun (k0 : Nat) (E0 : Nat → PV) (H0 : Hp) => ∃ (i : Nat), i = 0 ∧ k0 = 0 ∧ E0 6 = .int .i64 (i : Int) ∧ H0 = hp []) (0) ?_ ?_
            intro Ng
            refine ⟨_, _, wkE_id, rowsok_nil, 0, (by first | omega | rfl | assumption | (simp (maxDischargeDepth := 8) only [go_sem, cast0, hNE]; first | done | rfl | assumption | omega)), (by first | omega | rfl | assumption | (simp (maxDischargeDepth := 8) only [go_sem, cast0, hNE]; first | done | rfl | assumption | omega)), (by simp (maxDischargeDepth := 8) only [go_sem, cast0, hNE, List.length_append, List.length_cons, List.length_nil, Nat.zero_add]; first | done | rfl), rfl⟩
            rintro k0 E0 H0 hfr0 ⟨i, hk, hk2, h0_6, rfl⟩
            have e0_1 := hfr0 1 rfl; have e0_4 := hfr0 4 rfl; have e0_5 := hfr0 5 rfl
            simp (maxDischargeDepth := 8) only [go_sem, cast0, hNE] at e0_1 e0_4 e0_5
            clear hfr0
            subst hk
            (have hA := And.intro e0_1 (And.intro e0_4 (And.intro e0_5 (h0_6))); have hP := And.intro h53 (True.intro); have hNE := True.intro; have hC := True.intro; repeat' first
                | with_reducible first | refine k_seq ?_ | refine t_seq ?_ | refine t_reg ?_ | refine t_nil ?_ | refine t_skip ?_ | refine t_ret ?_ | refine t_exit ?_ | refine k_seq_exit ?_ | refine k_seq_ret ?_ | refine k_blk_exit ?_ | refine k_invX_exit ?_
                | refine ae_val ?_
                | refine ae_callS ?_
                | refine ae_gval ?_
                | refine ae_gno ?_
                | refine a_cond ?_ ?_
                | (with_reducible intro hc; with_reducible exact Bool.noConfusion hc)
                | (with_reducible intro hc; have hC := And.intro hC hc))
            (first | apply pend rs15 | apply pendN rs15); (focus (simp (maxDischargeDepth := 8) only [hNE, go_sem, e0_1, e0_4, e0_5, h0_6, rfs]; first | done | exact rfl)); (focus (simp (maxDischargeDepth := 8) only [hNE, go_sem, e0_1, e0_4, e0_5, h0_6, rfs]; first | done | exact rfl))
      · have ht2 : decide (0 < (u.there.length : Int)) = true := by
          have := List.length_pos_iff.2 ht0
          simp; omega
        have hf : formB u = true := by simp [formB, ha, List.length_pos_iff.2 ht0]
        rw [unitE_form hac hlg hf]
        simp only [encU, ha, hr0, List.map_nil] at h1 e1 ⊢
        (refine ppure_of_T ok15 (by simp only [List.length_cons, List.length_nil]; decide) ?_; refine t_seq ?_)
        (have hA := And.intro e1 (And.intro l2 (ht2)); have hP := And.intro h1 (True.intro); have hNE := True.intro; have hC := True.intro; repeat' first
            | with_reducible first | refine k_seq ?_ | refine t_seq ?_ | refine t_reg ?_ | refine t_nil ?_ | refine t_skip ?_ | refine t_ret ?_ | refine k_seq_ret ?_
            | refine ae_val ?_
            | refine ae_callS ?_
            | refine ae_gval ?_
            | refine ae_gno ?_
            | refine ae_gskip ?_
            | refine ae_box ?_
            | refine a_cond ?_ ?_
            | (with_reducible intro hc; with_reducible exact Bool.noConfusion hc)
            | (with_reducible intro hc; have hC := And.intro hC hc))
        (first | apply pend rs15 | apply pendN rs15); (focus (simp (maxDischargeDepth := 8) only [hNE, go_sem]; first | done | exact rfl)); (focus (simp (maxDischargeDepth := 8) only [hNE, go_sem]; first | done | exact rfl))
    · have hr2 : decide (0 < (u.recs.length : Int)) = true := by
        have := List.length_pos_iff.2 hr0
        simp; omega
      have hf : formB u = true := by simp [formB, ha, List.length_pos_iff.2 hr0]
      rw [unitE_form hac hlg hf]
      simp only [encU, ha] at h1 e1 ⊢
      (refine ppure_of_T ok15 (by simp only [List.length_cons, List.length_nil]; decide) ?_; refine t_seq ?_)
      (have hA := And.intro e1 (And.intro l1 (And.intro l2 (hr2))); have hP := And.intro h1 (True.intro); have hNE := True.intro; have hC := True.intro; repeat' first
          | with_reducible first | refine k_seq ?_ | refine t_seq ?_ | refine t_reg ?_ | refine t_nil ?_ | refine t_skip ?_ | refine t_ret ?_ | refine k_seq_ret ?_
          | refine ae_val ?_
          | refine ae_callS ?_
          | refine ae_gval ?_
          | refine ae_gskip ?_
          | refine ae_box ?_
          | refine a_cond ?_ ?_
          | (with_reducible intro hc; with_reducible exact Bool.noConfusion hc)
          | (with_reducible intro hc; have hC := And.intro hC hc))
      (first | apply pend rs15 | apply pendN rs15); (focus (simp (maxDischargeDepth := 8) only [hNE, go_sem]; first | done | exact rfl)); (focus (simp (maxDischargeDepth := 8) only [hNE, go_sem]; first | done | exact rfl))
end Go.Proofs.Ythdgdngdfijfhaa
namespace Go.Proofs.Ythdgdngdfijfhaa
open Go.RowKit Go.Proofs
set_option linter.unusedVariables false
set_option linter.unusedSimpArgs false
attribute [local irreducible] PPure CallN Tops TopsDm T
attribute [local go_sem] Int.toNat_natCast List.length_map List.length_replicate Nat.zero_add in
theorem p51 (xs : List (List UInt8)) (hl : xs.length ≤ 1000000) : PPure Try.prog 51 [.list .any (xs.map encS)] (.list .any (xs.map encS)) := by
  have dr : List.drop xs.length (List.replicate xs.length (PV.str [])) = [] := List.drop_eq_nil_of_le (by simp)
  (refine ppure_of_T ok51 (by simp only [List.length_cons, List.length_nil]; decide) ?_; refine t_seq ?_)
  (have hA := True.intro; have hP := True.intro; have hNE := True.intro; have hC := True.intro; repeat' first
      | with_reducible first | refine k_seq ?_ | refine t_seq ?_ | refine t_reg ?_ | refine t_nil ?_ | refine t_ret ?_
      | refine ae_val ?_
      | ((with_reducible apply te_makeSlice); (focus (simp (maxDischargeDepth := 8) only [go_sem, hNE, hA]; first | done | exact rfl)); (focus (simp (maxDischargeDepth := 8) only [go_sem, hNE, hA]; first | done | exact rfl)); (focus (simp (maxDischargeDepth := 8) only [go_sem, hNE, hA]; first | done | exact rfl)); (focus (simp (maxDischargeDepth := 8) only [go_sem, hNE, hA]; first | done | exact rfl)); (focus (simp (maxDischargeDepth := 8) only [go_sem, hNE, hA]; first | done | exact rfl)); exact rfl; (focus (first | exact rfl | (simp (maxDischargeDepth := 8) only [go_sem, hNE, hA]; done))); (focus (first | omega | (simp (maxDischargeDepth := 8) only [go_sem, hNE, hA]; done))); (focus (simp (maxDischargeDepth := 8) only [go_sem, hNE, hA, roomB, List.length_take, List.length_append]; first | done | omega)); (focus omega); (intro la ha hn1; have hNE := And.intro hNE hn1))
      | ((with_reducible apply te_copy); (with_reducible exact app_22; with_reducible exact c_9); (focus (simp (maxDischargeDepth := 8) only [go_sem, hNE, hA]; first | done | exact rfl)); (focus (simp (maxDischargeDepth := 8) only [go_sem, hNE, hA]; first | done | exact rfl)); (focus (simp (maxDischargeDepth := 8) only [go_sem, hNE, hA, roomB, List.length_take, List.length_append]; first | done | omega)); (focus (simp (maxDischargeDepth := 8) only [go_sem, hNE, hA]; first | done | exact rfl)); (focus (simp (maxDischargeDepth := 8) only [go_sem, hNE, hA]; done))))
  (first | apply pend rs51 | apply pendN rs51); (focus (simp (maxDischargeDepth := 8) only [hNE, go_sem, dr, List.append_nil, List.length_map, Nat.le_refl]; first | done | exact rfl)); (focus (simp (maxDischargeDepth := 8) only [hNE, go_sem, dr, List.append_nil, List.length_map, Nat.le_refl]; first | done | exact rfl))
theorem p25 (l : List Ac) (hl : l.length ≤ 1000000) : PPure Try.prog 25 [.list .any (l.map encAc)] (.list .any (l.map encAc)) := by
  by_cases h0 : l = []
  · subst h0
    (refine ppure_of_T ok25 (by simp only [List.length_cons, List.length_nil]; decide) ?_; refine t_seq ?_)
    (have hA := True.intro; have hP := True.intro; have hNE := True.intro; have hC := True.intro; repeat' first
        | with_reducible first | refine k_seq ?_ | refine t_seq ?_ | refine t_reg ?_ | refine t_nil ?_ | refine t_ret ?_
        | refine ae_val ?_
        | ((with_reducible apply te_appendE); (with_reducible exact app_44; with_reducible exact c_57); (focus (simp (maxDischargeDepth := 8) only [go_sem, hNE, hA]; first | done | exact rfl)); (focus (simp (maxDischargeDepth := 8) only [go_sem, hNE, hA]; first | done | exact rfl)); exact rfl; (focus (first | exact rfl | (simp (maxDischargeDepth := 8) only [go_sem, hNE, hA]; done))); (focus (simp (maxDischargeDepth := 8) only [go_sem, hNE, hA]; done)); (focus (simp (maxDischargeDepth := 8) only [go_sem, hNE, hA, roomB, List.length_take, List.length_append]; first | done | omega))))
    (first | apply pend rs25 | apply pendN rs25); (focus (simp (maxDischargeDepth := 8) only [hNE, go_sem]; first | done | exact rfl)); (focus (simp (maxDischargeDepth := 8) only [hNE, go_sem]; first | done | exact rfl))
  · have he : (l.map encAc).isEmpty = false := by simpa using h0
    have hn : ¬ l.map encAc = [] := by simpa using h0
    have hb : l.length * 100 ≤ 140737488355328 := by omega
    (refine ppure_of_T ok25 (by simp only [List.length_cons, List.length_nil]; decide) ?_; refine t_seq ?_)
    (have hA := And.intro he (hn); have hP := True.intro; have hNE := True.intro; have hC := True.intro; repeat' first
        | with_reducible first | refine k_seq ?_ | refine t_seq ?_ | refine t_reg ?_ | refine t_nil ?_ | refine t_ret ?_
        | refine ae_val ?_
        | ((with_reducible apply te_appendL); (with_reducible exact app_44; with_reducible exact c_57); (focus (simp (maxDischargeDepth := 8) only [go_sem, hNE, hA]; first | done | exact rfl)); (focus (simp (maxDischargeDepth := 8) only [go_sem, hNE, hA]; first | done | exact rfl)); exact rfl; (focus (first | exact rfl | (simp (maxDischargeDepth := 8) only [go_sem, hNE, hA]; done))); (focus (simp (maxDischargeDepth := 8) only [go_sem, hNE, hA]; done)); (focus (simp (maxDischargeDepth := 8) only [go_sem, hNE, hA]; done)); (focus (simp (maxDischargeDepth := 8) only [go_sem, hNE, hA, roomB, List.length_take, List.length_append]; first | done | omega)); (intro la ha hn1; have hNE := And.intro hNE hn1)))
    (first | apply pend rs25 | apply pendN rs25); (focus (simp (maxDischargeDepth := 8) only [hNE, go_sem]; first | done | exact rfl)); (focus (simp (maxDischargeDepth := 8) only [hNE, go_sem]; first | done | exact rfl))
theorem p34 (l : List Ev) (hl : l.length ≤ 1000000) : PPure Try.prog 34 [.list .any (l.map encEv)] (.list .any (l.map encEv)) := by
  by_cases h0 : l = []
  · subst h0
    (refine ppure_of_T ok34 (by simp only [List.length_cons, List.length_nil]; decide) ?_; refine t_seq ?_)
    (have hA := True.intro; have hP := True.intro; have hNE := True.intro; have hC := True.intro; repeat' first
        | with_reducible first | refine k_seq ?_ | refine t_seq ?_ | refine t_reg ?_ | refine t_nil ?_ | refine t_ret ?_
        | refine ae_val ?_
        | ((with_reducible apply te_appendE); (with_reducible exact app_67; with_reducible exact c_71); (focus (simp (maxDischargeDepth := 8) only [go_sem, hNE, hA]; first | done | exact rfl)); (focus (simp (maxDischargeDepth := 8) only [go_sem, hNE, hA]; first | done | exact rfl)); exact rfl; (focus (first | exact rfl | (simp (maxDischargeDepth := 8) only [go_sem, hNE, hA]; done))); (focus (simp (maxDischargeDepth := 8) only [go_sem, hNE, hA]; done)); (focus (simp (maxDischargeDepth := 8) only [go_sem, hNE, hA, roomB, List.length_take, List.length_append]; first | done | omega))))
    (first | apply pend rs34 | apply pendN rs34); (focus (simp (maxDischargeDepth := 8) only [hNE, go_sem]; first | done | exact rfl)); (focus (simp (maxDischargeDepth := 8) only [hNE, go_sem]; first | done | exact rfl))
  · have he : (l.map encEv).isEmpty = false := by simpa using h0
    have hn : ¬ l.map encEv = [] := by simpa using h0
    have hb : l.length * 100 ≤ 140737488355328 := by omega
    (refine ppure_of_T ok34 (by simp only [List.length_cons, List.length_nil]; decide) ?_; refine t_seq ?_)
    (have hA := And.intro he (hn); have hP := True.intro; have hNE := True.intro; have hC := True.intro; repeat' first
        | with_reducible first | refine k_seq ?_ | refine t_seq ?_ | refine t_reg ?_ | refine t_nil ?_ | refine t_ret ?_
        | refine ae_val ?_
        | ((with_reducible apply te_appendL); (with_reducible exact app_67; with_reducible exact c_71); (focus (simp (maxDischargeDepth := 8) only [go_sem, hNE, hA]; first | done | exact rfl)); (focus (simp (maxDischargeDepth := 8) only [go_sem, hNE, hA]; first | done | exact rfl)); exact rfl; (focus (first | exact rfl | (simp (maxDischargeDepth := 8) only [go_sem, hNE, hA]; done))); (focus (simp (maxDischargeDepth := 8) only [go_sem, hNE, hA]; done)); (focus (simp (maxDischargeDepth := 8) only [go_sem, hNE, hA]; done)); (focus (simp (maxDischargeDepth := 8) only [go_sem, hNE, hA, roomB, List.length_take, List.length_append]; first | done | omega)); (intro la ha hn1; have hNE := And.intro hNE hn1)))
    (first | apply pend rs34 | apply pendN rs34); (focus (simp (maxDischargeDepth := 8) only [hNE, go_sem]; first | done | exact rfl)); (focus (simp (maxDischargeDepth := 8) only [hNE, go_sem]; first | done | exact rfl))
theorem p14 (u : Un) (hl : u.recs.length ≤ 1000000) (hl2 : u.there.length ≤ 1000000) : PPure Try.prog 14 [encU u] (encU u) := by
  have h1 := p51 u.recs hl
  simp only [encU]
  by_cases h0 : u.there = []
  · simp only [h0, List.map_nil]
    (refine ppure_of_T ok14 (by simp only [List.length_cons, List.length_nil]; decide) ?_; refine t_seq ?_)
    (have hA := True.intro; have hP := And.intro h1 (True.intro); have hNE := True.intro; have hC := True.intro; repeat' first
        | with_reducible first | refine k_seq ?_ | refine t_seq ?_ | refine t_reg ?_ | refine t_nil ?_ | refine t_ret ?_
        | refine ae_val ?_
        | refine ae_callS ?_
        | ((with_reducible apply te_appendE); (with_reducible exact app_23; with_reducible exact c_4); (focus (simp (maxDischargeDepth := 8) only [go_sem, hNE, hA]; first | done | exact rfl)); (focus (simp (maxDischargeDepth := 8) only [go_sem, hNE, hA]; first | done | exact rfl)); exact rfl; (focus (first | exact rfl | (simp (maxDischargeDepth := 8) only [go_sem, hNE, hA]; done))); (focus (simp (maxDischargeDepth := 8) only [go_sem, hNE, hA]; done)); (focus (simp (maxDischargeDepth := 8) only [go_sem, hNE, hA, roomB, List.length_take, List.length_append]; first | done | omega)))
        | (refine ae_boxL ?_; intro la ha hn1; have hNE := And.intro hNE hn1)
        | (refine ae_alloc ?_; intro la ha hn1; have hNE := And.intro hNE hn1)
        | refine ae_store ?_)
    (first | apply pend rs14 | apply pendN rs14); (focus (simp (maxDischargeDepth := 8) only [hNE, go_sem]; first | done | exact rfl)); (focus (simp (maxDischargeDepth := 8) only [hNE, go_sem]; first | done | exact rfl))
  · have he : (u.there.map encB).isEmpty = false := by simpa using h0
    have hn : ¬ u.there.map encB = [] := by simpa using h0
    (refine ppure_of_T ok14 (by simp only [List.length_cons, List.length_nil]; decide) ?_; refine t_seq ?_)
    (have hA := And.intro he (hn); have hP := And.intro h1 (True.intro); have hNE := True.intro; have hC := True.intro; repeat' first
        | with_reducible first | refine k_seq ?_ | refine t_seq ?_ | refine t_reg ?_ | refine t_nil ?_ | refine t_ret ?_
        | refine ae_val ?_
        | refine ae_callS ?_
        | ((with_reducible apply te_appendL); (with_reducible exact app_23; with_reducible exact c_4); (focus (simp (maxDischargeDepth := 8) only [go_sem, hNE, hA]; first | done | exact rfl)); (focus (simp (maxDischargeDepth := 8) only [go_sem, hNE, hA]; first | done | exact rfl)); exact rfl; (focus (first | exact rfl | (simp (maxDischargeDepth := 8) only [go_sem, hNE, hA]; done))); (focus (simp (maxDischargeDepth := 8) only [go_sem, hNE, hA]; done)); (focus (simp (maxDischargeDepth := 8) only [go_sem, hNE, hA]; done)); (focus (simp (maxDischargeDepth := 8) only [go_sem, hNE, hA, roomB, List.length_take, List.length_append]; first | done | omega)); (intro la ha hn1; have hNE := And.intro hNE hn1))
        | (refine ae_boxL ?_; intro la ha hn1; have hNE := And.intro hNE hn1)
        | (refine ae_alloc ?_; intro la ha hn1; have hNE := And.intro hNE hn1)
        | refine ae_store ?_)
    (first | apply pend rs14 | apply pendN rs14); (focus (simp (maxDischargeDepth := 8) only [hNE, go_sem]; first | done | exact rfl)); (focus (simp (maxDischargeDepth := 8) only [hNE, go_sem]; first | done | exact rfl))
def sameT (a b : List (List UInt8)) (i : Nat) : Bool := decide ((a.length : Int) = (b.length : Int)) && (a.take i == b.take i)
theorem sameT_next {a b : List (List UInt8)} {i : Nat} (h : sameT a b i = false) : sameT a b (i + 1) = false := by
  unfold sameT at h ⊢
  cases hd : decide ((a.length : Int) = (b.length : Int)) with
  | false => rfl
  | true =>
    rw [hd] at h
    rw [Bool.true_and] at h ⊢
    simp only [beq_eq_false_iff_ne, ne_eq] at h ⊢
    intro e
    apply h
    have := congrArg (List.take i) e
    simpa [List.take_take, Nat.min_eq_left (Nat.le_succ i)] using this
theorem sameT_at {a b : List (List UInt8)} {i : Nat} {x y : List UInt8} (h : sameT a b i = true) (hx : a[i]? = some x) (hy : b[i]? = some y) : sameT a b (i + 1) = (x == y) := by
  unfold sameT at h ⊢
  simp only [Bool.and_eq_true, beq_iff_eq] at h
  rw [h.1, Bool.true_and, List.take_add_one, List.take_add_one, hx, hy, h.2]
  cases hb : (x == y) with
  | true => have := eq_of_beq hb; subst this; simp
  | false => simp only [beq_eq_false_iff_ne, ne_eq] at hb ⊢; intro e; apply hb; simpa using e
theorem sameT_end {a b : List (List UInt8)} : sameT a b a.length = (a == b) := by
  unfold sameT
  by_cases h : a.length = b.length
  · rw [decide_eq_true (by omega), Bool.true_and, List.take_length, h, List.take_length]
  · rw [decide_eq_false (by omega), Bool.false_and]
    symm
    simp only [beq_eq_false_iff_ne, ne_eq]
    exact fun e => h (by rw [e])
attribute [local go_sem] encS Int.toNat_natCast List.getElem?_map Option.map_some in
theorem p47 (a b : List (List UInt8)) (hl : a.length ≤ 1000) : PPure Try.prog 47 [.list .any (a.map encS), .list .any (b.map encS)] (.bool (a == b)) := by
  have h0 : sameT a b 0 = decide ((a.length : Int) = (b.length : Int)) := by simp [sameT]
  have hend := sameT_end (a := a) (b := b)
  (refine ppure_of_T ok47 (by simp only [List.length_cons, List.length_nil]; decide) ?_; refine t_seq ?_)
  (have hA := True.intro; have hP := True.intro; have hNE := True.intro; have hC := True.intro; repeat' first
      | with_reducible first | refine k_seq ?_ | refine t_seq ?_ | refine t_reg ?_ | refine t_nil ?_ | refine t_block ?_
      | refine ae_val ?_)
  refine t_loopX (fun (k0 : Nat) (E0 : Nat → PV) (H0 : Hp) => ∃ (i : Nat), i + k0 = a.length ∧ E0 5 = .bool (sameT a b i) ∧ E0 14 = .int .i64 (i : Int) ∧ H0 = hp []) (a.length) ?_ ?_
  intro Ng
  refine ⟨_, _, wkE_id, rowsok_nil, 0, (by first | omega | rfl | assumption | (simp (maxDischargeDepth := 8) only [go_sem, cast0, h0, hNE]; first | done | rfl | assumption | omega)), (by simp (maxDischargeDepth := 8) only [go_sem, cast0, h0, hNE, List.length_append, List.length_cons, List.length_nil, Nat.zero_add]; first | done | rfl), (by simp (maxDischargeDepth := 8) only [go_sem, cast0, h0, hNE, List.length_append, List.length_cons, List.length_nil, Nat.zero_add]; first | done | rfl), rfl⟩
  rintro k0 E0 H0 hfr0 ⟨i, hk, h0_5, h0_14, rfl⟩
  have e0_0 := hfr0 0 rfl; have e0_1 := hfr0 1 rfl; have e0_4 := hfr0 4 rfl; have e0_13 := hfr0 13 rfl
  simp (maxDischargeDepth := 8) only [go_sem, cast0, h0, hNE] at e0_0 e0_1 e0_4 e0_13
  clear hfr0
  by_cases hi : i < a.length
  · obtain ⟨x, hx, hdr⟩ := at_list hi
    have hlt := lt_int hi
    have hw := wrap_next hi hl
    have hge : (0 : Int) ≤ (i : Int) := by omega
    cases hst : sameT a b i with
    | false =>
      have hn := sameT_next hst
      (have hA := And.intro e0_0 (And.intro e0_1 (And.intro e0_4 (And.intro e0_13 (And.intro h0_5 (And.intro h0_14 (And.intro hlt (And.intro hge (And.intro hx (hst))))))))); have hP := True.intro; have hNE := True.intro; have hC := True.intro; repeat' first
          | ((with_reducible apply te_drwA); (focus (simp (maxDischargeDepth := 8) only [effFlA, List.map_cons, List.map_nil]; exact rfl)); (focus decide +kernel))
          | with_reducible first | refine k_seq ?_ | refine t_seq ?_ | refine t_reg ?_ | refine t_nil ?_ | refine t_skip ?_ | refine k_blk ?_ | refine t_block ?_ | refine m_nil ?_
          | refine ae_val ?_
          | refine be_val ?_
          | refine be_gval ?_
          | refine be_gno ?_
          | refine a_cond ?_ ?_
          | (with_reducible intro hc; with_reducible exact Bool.noConfusion hc)
          | (with_reducible intro hc; have hC := And.intro hC hc))
      refine k_invX (k0 - 1) (by omega) ?_
      intro Ng
      refine ⟨_, _, wkE_id, rowsok_nil, i + 1, (by first | omega | (simp only [List.length_append, List.length_cons, List.length_nil, List.length_drop, List.length_take, List.length_map]; omega)), (by simp (maxDischargeDepth := 8) only [go_sem, e0_0, e0_1, e0_4, e0_13, h0_5, h0_14, hw, hn, hNE, List.length_append, List.length_cons, List.length_nil, Nat.zero_add]; first | done | rfl), (by simp (maxDischargeDepth := 8) only [go_sem, e0_0, e0_1, e0_4, e0_13, h0_5, h0_14, hw, hn, hNE, List.length_append, List.length_cons, List.length_nil, Nat.zero_add]; first | done | rfl), rfl⟩
    | true =>
      have hbl : (a.length : Int) = (b.length : Int) := by
        unfold sameT at hst; simp at hst; omega
      obtain ⟨y, hy, hdr2⟩ := at_list (xs := b) (i := i) (by omega)
      have hlt2 : (i : Int) < (b.length : Int) := by omega
      have hn := sameT_at hst hx hy
      (have hA := And.intro e0_0 (And.intro e0_1 (And.intro e0_4 (And.intro e0_13 (And.intro h0_5 (And.intro h0_14 (And.intro hlt (And.intro hge (And.intro hx (And.intro hst (And.intro hy (hlt2))))))))))); have hP := True.intro; have hNE := True.intro; have hC := True.intro; repeat' first
          | ((with_reducible apply te_drwA); (focus (simp (maxDischargeDepth := 8) only [effFlA, List.map_cons, List.map_nil]; exact rfl)); (focus decide +kernel))
          | with_reducible first | refine k_seq ?_ | refine t_seq ?_ | refine t_reg ?_ | refine t_nil ?_ | refine t_skip ?_ | refine k_blk ?_ | refine t_block ?_ | refine m_nil ?_
          | refine ae_val ?_
          | refine be_val ?_
          | refine be_gval ?_
          | refine a_cond ?_ ?_
          | (with_reducible intro hc; with_reducible exact Bool.noConfusion hc)
          | (with_reducible intro hc; have hC := And.intro hC hc))
      refine k_invX (k0 - 1) (by omega) ?_
      intro Ng
      refine ⟨_, _, wkE_id, rowsok_nil, i + 1, (by first | omega | (simp only [List.length_append, List.length_cons, List.length_nil, List.length_drop, List.length_take, List.length_map]; omega)), (by simp (maxDischargeDepth := 8) only [go_sem, e0_0, e0_1, e0_4, e0_13, h0_5, h0_14, hw, hn, hNE, List.length_append, List.length_cons, List.length_nil, Nat.zero_add]; first | done | rfl), (by simp (maxDischargeDepth := 8) only [go_sem, e0_0, e0_1, e0_4, e0_13, h0_5, h0_14, hw, hn, hNE, List.length_append, List.length_cons, List.length_nil, Nat.zero_add]; first | done | rfl), rfl⟩
  · have hlt := nlt_int hi
    have hil : i = a.length := by omega
    subst hil
    (have hA := And.intro e0_0 (And.intro e0_1 (And.intro e0_4 (And.intro e0_13 (And.intro h0_5 (And.intro h0_14 (hlt)))))); have hP := True.intro; have hNE := True.intro; have hC := True.intro; repeat' first
        | with_reducible first | refine k_seq ?_ | refine t_seq ?_ | refine t_reg ?_ | refine t_nil ?_ | refine t_ret ?_ | refine t_exit ?_ | refine k_seq_exit ?_ | refine k_blk_exit ?_ | refine k_invX_exit ?_
        | refine ae_val ?_
        | refine a_cond ?_ ?_
        | (with_reducible intro hc; with_reducible exact Bool.noConfusion hc)
        | (with_reducible intro hc; have hC := And.intro hC hc))
    (first | apply pend rs47 | apply pendN rs47); (focus (simp only [go_sem, e0_0, e0_1, e0_4, e0_13, h0_5, h0_14, hend]; first | done | exact rfl)); (focus (simp only [go_sem, e0_0, e0_1, e0_4, e0_13, h0_5, h0_14, hend]; first | done | exact rfl))
theorem e_59 : flatEq Try.prog 59 = some [.i .i64, .s, .i .i64] := by kernel_rfl
theorem e_71 : flatEq Try.prog 71 = some [.i .i64, .i .i64, .s] := by kernel_rfl
attribute [go_sem] e_59 e_71 PV.ck cellsEq
attribute [local go_sem] encEv Int.toNat_natCast List.getElem?_map Option.map_some eq_self decide_true beq_self_eq_true Bool.and_true Bool.not_true in
theorem p43 (l : List Ev) (hl : l.length ≤ 1000) : PPure Try.prog 43 [.list .any (l.map encEv), .list .any (l.map encEv)] (.bool true) := by
  have e1 : decide (¬ (l.length : Int) = (l.length : Int)) = false := by simp
  (refine ppure_of_T ok43 (by simp only [List.length_cons, List.length_nil]; decide) ?_; refine t_seq ?_)
  (have hA := e1; have hP := True.intro; have hNE := True.intro; have hC := True.intro; repeat' first
      | with_reducible first | refine k_seq ?_ | refine t_seq ?_ | refine t_reg ?_ | refine t_nil ?_ | refine t_skip ?_ | refine t_block ?_
      | refine ae_val ?_
      | refine a_cond ?_ ?_
      | (with_reducible intro hc; with_reducible exact Bool.noConfusion hc)
      | (with_reducible intro hc; have hC := And.intro hC hc))
  refine t_loopX (fun (k0 : Nat) (E0 : Nat → PV) (H0 : Hp) => ∃ (i : Nat), i + k0 = l.length ∧ E0 5 = .int .i64 (i : Int) ∧ H0 = hp []) (l.length) ?_ ?_
  intro Ng
  refine ⟨_, _, wkE_id, rowsok_nil, 0, (by first | omega | rfl | assumption | (simp (maxDischargeDepth := 8) only [go_sem, cast0, hNE]; first | done | rfl | assumption | omega)), (by simp (maxDischargeDepth := 8) only [go_sem, cast0, hNE, List.length_append, List.length_cons, List.length_nil, Nat.zero_add]; first | done | rfl), rfl⟩
  rintro k0 E0 H0 hfr0 ⟨i, hk, h0_5, rfl⟩
  have e0_0 := hfr0 0 rfl; have e0_1 := hfr0 1 rfl
  simp (maxDischargeDepth := 8) only [go_sem, cast0, hNE] at e0_0 e0_1
  clear hfr0
  by_cases hi : i < l.length
  · obtain ⟨x, hx, hdr⟩ := at_list hi
    have hlt := lt_int hi
    have hw := wrap_next hi hl
    have hge : (0 : Int) ≤ (i : Int) := by omega
    (have hA := And.intro e0_0 (And.intro e0_1 (And.intro h0_5 (And.intro hlt (And.intro hge (hx))))); have hP := True.intro; have hNE := True.intro; have hC := True.intro; repeat' first
        | ((with_reducible apply te_drwA); (focus (simp (maxDischargeDepth := 8) only [effFlA, List.map_cons, List.map_nil]; exact rfl)); (focus decide +kernel))
        | with_reducible first | refine k_seq ?_ | refine t_seq ?_ | refine t_reg ?_ | refine t_nil ?_ | refine t_skip ?_ | refine k_blk ?_ | refine t_block ?_ | refine m_nil ?_
        | refine ae_val ?_
        | refine be_val ?_
        | refine a_cond ?_ ?_
        | (with_reducible intro hc; with_reducible exact Bool.noConfusion hc)
        | (with_reducible intro hc; have hC := And.intro hC hc))
    refine k_invX (k0 - 1) (by omega) ?_
    intro Ng
    refine ⟨_, _, wkE_id, rowsok_nil, i + 1, (by first | omega | (simp only [List.length_append, List.length_cons, List.length_nil, List.length_drop, List.length_take, List.length_map]; omega)), (by simp (maxDischargeDepth := 8) only [go_sem, e0_0, e0_1, h0_5, hw, hNE, List.length_append, List.length_cons, List.length_nil, Nat.zero_add]; first | done | rfl), rfl⟩
  · have hlt := nlt_int hi
    (have hA := And.intro e0_0 (And.intro e0_1 (And.intro h0_5 (hlt))); have hP := True.intro; have hNE := True.intro; have hC := True.intro; repeat' first
        | with_reducible first | refine k_seq ?_ | refine t_seq ?_ | refine t_reg ?_ | refine t_nil ?_ | refine t_ret ?_ | refine t_exit ?_ | refine k_seq_exit ?_ | refine k_blk_exit ?_ | refine k_invX_exit ?_
        | refine ae_val ?_
        | refine a_cond ?_ ?_
        | (with_reducible intro hc; with_reducible exact Bool.noConfusion hc)
        | (with_reducible intro hc; have hC := And.intro hC hc))
    (first | apply pend rs43 | apply pendN rs43); (focus (simp only [go_sem, e0_0, e0_1, h0_5]; first | done | exact rfl)); (focus (simp only [go_sem, e0_0, e0_1, h0_5]; first | done | exact rfl))
end Go.Proofs.Ythdgdngdfijfhaa
namespace Go.Proofs.Ythdgdngdfijfhaa
open Go.RowKit Go.Proofs
set_option linter.unusedVariables false
set_option linter.unusedSimpArgs false
attribute [local irreducible] PPure CallN Tops TopsDm T
def fewB (u : Un) : Bool :=
  !(decide (64 < (u.recs.length : Int)) || decide (64 < (u.there.length : Int)) || (decide (500 < (u.bytes.length : Int)) && decide ((u.bytes.length : Int) ≤ 4000)) || decide (4003 < (u.bytes.length : Int))) &&
  u.recs.all fun s => !decide (260 < (s.length : Int))
attribute [local go_sem] encS Int.toNat_natCast List.getElem?_map Option.map_some in
set_option maxHeartbeats 4000000 in
theorem p12 (u : Un) : PPure Try.prog 12 [encU u] (.bool (fewB u)) := by
  by_cases g1 : decide (64 < (u.recs.length : Int)) = true
  · have hf : fewB u = false := by unfold fewB; rw [g1]; rfl
    rw [hf]
    simp only [encU]
    (refine ppure_of_T ok12 (by simp only [List.length_cons, List.length_nil]; decide) ?_; refine t_seq ?_)
    (have hA := g1; have hP := True.intro; have hNE := True.intro; have hC := True.intro; repeat' first
        | with_reducible first | refine k_seq ?_ | refine t_seq ?_ | refine t_reg ?_ | refine t_nil ?_ | refine t_ret ?_ | refine k_seq_ret ?_
        | refine ae_val ?_
        | refine ae_gval ?_
        | refine ae_gskip ?_
        | refine ae_box ?_
        | refine a_cond ?_ ?_
        | (with_reducible intro hc; with_reducible exact Bool.noConfusion hc)
        | (with_reducible intro hc; have hC := And.intro hC hc))
    (first | apply pend rs12 | apply pendN rs12); (focus (simp (maxDischargeDepth := 8) only [hNE, go_sem]; first | done | exact rfl)); (focus (simp (maxDischargeDepth := 8) only [hNE, go_sem]; first | done | exact rfl))
  have g1 : decide (64 < (u.recs.length : Int)) = false := by simpa using g1
  have hl : u.recs.length ≤ 1000 := by simp at g1; omega
  by_cases g2 : decide (64 < (u.there.length : Int)) = true
  · have hf : fewB u = false := by unfold fewB; rw [g1, g2]; rfl
    rw [hf]
    simp only [encU]
    (refine ppure_of_T ok12 (by simp only [List.length_cons, List.length_nil]; decide) ?_; refine t_seq ?_)
    (have hA := And.intro g1 (g2); have hP := True.intro; have hNE := True.intro; have hC := True.intro; repeat' first
        | with_reducible first | refine k_seq ?_ | refine t_seq ?_ | refine t_reg ?_ | refine t_nil ?_ | refine t_ret ?_ | refine k_seq_ret ?_
        | refine ae_val ?_
        | refine ae_gval ?_
        | refine ae_gskip ?_
        | refine ae_box ?_
        | refine a_cond ?_ ?_
        | (with_reducible intro hc; with_reducible exact Bool.noConfusion hc)
        | (with_reducible intro hc; have hC := And.intro hC hc))
    (first | apply pend rs12 | apply pendN rs12); (focus (simp (maxDischargeDepth := 8) only [hNE, go_sem]; first | done | exact rfl)); (focus (simp (maxDischargeDepth := 8) only [hNE, go_sem]; first | done | exact rfl))
  have g2 : decide (64 < (u.there.length : Int)) = false := by simpa using g2
  by_cases g5 : decide (4003 < (u.bytes.length : Int)) = true
  · have g3 : decide (500 < (u.bytes.length : Int)) = true := by simp at g5 ⊢; omega
    have g4 : decide ((u.bytes.length : Int) ≤ 4000) = false := by simp at g5 ⊢; omega
    have hf : fewB u = false := by unfold fewB; rw [g1, g2, g3, g4, g5]; rfl
    rw [hf]
    simp only [encU]
    (refine ppure_of_T ok12 (by simp only [List.length_cons, List.length_nil]; decide) ?_; refine t_seq ?_)
    (have hA := And.intro g1 (And.intro g2 (And.intro g3 (And.intro g4 (g5)))); have hP := True.intro; have hNE := True.intro; have hC := True.intro; repeat' first
        | with_reducible first | refine k_seq ?_ | refine t_seq ?_ | refine t_reg ?_ | refine t_nil ?_ | refine t_ret ?_ | refine k_seq_ret ?_
        | refine ae_val ?_
        | refine ae_gval ?_
        | refine ae_box ?_
        | refine a_cond ?_ ?_
        | (with_reducible intro hc; with_reducible exact Bool.noConfusion hc)
        | (with_reducible intro hc; have hC := And.intro hC hc))
    (first | apply pend rs12 | apply pendN rs12); (focus (simp (maxDischargeDepth := 8) only [hNE, go_sem]; first | done | exact rfl)); (focus (simp (maxDischargeDepth := 8) only [hNE, go_sem]; first | done | exact rfl))
  have g5 : decide (4003 < (u.bytes.length : Int)) = false := by simpa using g5
  by_cases g6 : decide (500 < (u.bytes.length : Int)) = true ∧ decide ((u.bytes.length : Int) ≤ 4000) = true
  · obtain ⟨g3, g4⟩ := g6
    have hf : fewB u = false := by unfold fewB; rw [g1, g2, g3, g4, g5]; rfl
    rw [hf]
    simp only [encU]
    (refine ppure_of_T ok12 (by simp only [List.length_cons, List.length_nil]; decide) ?_; refine t_seq ?_)
    (have hA := And.intro g1 (And.intro g2 (And.intro g3 (And.intro g4 (g5)))); have hP := True.intro; have hNE := True.intro; have hC := True.intro; repeat' first
        | with_reducible first | refine k_seq ?_ | refine t_seq ?_ | refine t_reg ?_ | refine t_nil ?_ | refine t_ret ?_ | refine k_seq_ret ?_
        | refine ae_val ?_
        | refine ae_gval ?_
        | refine ae_box ?_
        | refine a_cond ?_ ?_
        | (with_reducible intro hc; with_reducible exact Bool.noConfusion hc)
        | (with_reducible intro hc; have hC := And.intro hC hc))
    (first | apply pend rs12 | apply pendN rs12); (focus (simp (maxDischargeDepth := 8) only [hNE, go_sem]; first | done | exact rfl)); (focus (simp (maxDischargeDepth := 8) only [hNE, go_sem]; first | done | exact rfl))
  have hf : fewB u = u.recs.all fun s => !decide (260 < (s.length : Int)) := by
    unfold fewB
    rw [g1, g2, g5]
    cases g3 : decide (500 < (u.bytes.length : Int)) with
    | false => simp
    | true =>
      cases g4 : decide ((u.bytes.length : Int) ≤ 4000) with
      | false => simp
      | true => exact absurd ⟨g3, g4⟩ g6
  obtain ⟨R, hR⟩ : ∃ R, (u.recs.all fun s => !decide (260 < (s.length : Int))) = R := ⟨_, rfl⟩
  rw [hf, hR]
  simp only [encU]
  cases g3 : decide (500 < (u.bytes.length : Int)) with
  | false =>
    have g4 := g3
    (refine ppure_of_T ok12 (by simp only [List.length_cons, List.length_nil]; decide) ?_; refine t_seq ?_)
    (have hA := And.intro g1 (And.intro g2 (And.intro g3 (And.intro g4 (g5)))); have hP := True.intro; have hNE := True.intro; have hC := True.intro; repeat' first
        | with_reducible first | refine k_seq ?_ | refine t_seq ?_ | refine t_reg ?_ | refine t_nil ?_ | refine t_skip ?_ | refine t_block ?_
        | refine ae_val ?_
        | refine ae_gval ?_
        | refine ae_gno ?_
        | refine ae_box ?_
        | refine a_cond ?_ ?_
        | (with_reducible intro hc; with_reducible exact Bool.noConfusion hc)
        | (with_reducible intro hc; have hC := And.intro hC hc))
    refine t_loopX (fun (k0 : Nat) (E0 : Nat → PV) (H0 : Hp) => ∃ (i : Nat), i + k0 = u.recs.length ∧ ((u.recs.drop i).all fun s => !decide (260 < (s.length : Int))) = R ∧ E0 3 = .int .i64 (i : Int) ∧ H0 = hp []) (u.recs.length) ?_ ?_
    intro Ng
    refine ⟨_, _, wkE_id, rowsok_nil, 0, (by first | omega | rfl | assumption | (simp (maxDischargeDepth := 8) only [go_sem, cast0, hNE]; first | done | rfl | assumption | omega)), ?_, (by simp (maxDischargeDepth := 8) only [go_sem, cast0, hNE, List.length_append, List.length_cons, List.length_nil, Nat.zero_add]; first | done | rfl), rfl⟩
    · exact hR
    rintro k0 E0 H0 hfr0 ⟨i, hk, hr, h0_3, rfl⟩
    have e0_1 := hfr0 1 rfl
    simp (maxDischargeDepth := 8) only [go_sem, cast0, hNE] at e0_1
    clear hfr0
    by_cases hi : i < u.recs.length
    · obtain ⟨s, hx, hdr⟩ := at_list hi
      have hlt := lt_int hi
      have hw := wrap_next hi hl
      have hge : (0 : Int) ≤ (i : Int) := by omega
      rw [hdr, List.all_cons] at hr
      cases h2 : decide (260 < (s.length : Int)) with
      | true =>
        rw [h2] at hr
        have hr : false = R := hr
        subst hr
        (have hA := And.intro e0_1 (And.intro h0_3 (And.intro hlt (And.intro hge (And.intro hx (h2))))); have hP := True.intro; have hNE := True.intro; have hC := True.intro; repeat' first
            | with_reducible first | refine k_seq ?_ | refine t_seq ?_ | refine t_reg ?_ | refine t_nil ?_ | refine t_skip ?_ | refine t_ret ?_ | refine k_seq_ret ?_ | refine k_blk_ret ?_ | refine k_invX_ret ?_ | refine t_block ?_
            | refine ae_val ?_
            | refine a_cond ?_ ?_
            | (with_reducible intro hc; with_reducible exact Bool.noConfusion hc)
            | (with_reducible intro hc; have hC := And.intro hC hc))
        (first | apply pend rs12 | apply pendN rs12); (focus (simp (maxDischargeDepth := 8) only [hNE, go_sem, e0_1, h0_3]; first | done | exact rfl)); (focus (simp (maxDischargeDepth := 8) only [hNE, go_sem, e0_1, h0_3]; first | done | exact rfl))
      | false =>
        rw [h2, Bool.not_false, Bool.true_and] at hr
        (have hA := And.intro e0_1 (And.intro h0_3 (And.intro hlt (And.intro hge (And.intro hx (h2))))); have hP := True.intro; have hNE := True.intro; have hC := True.intro; repeat' first
            | with_reducible first | refine k_seq ?_ | refine t_seq ?_ | refine t_reg ?_ | refine t_nil ?_ | refine t_skip ?_ | refine k_blk ?_ | refine t_block ?_
            | refine ae_val ?_
            | refine a_cond ?_ ?_
            | (with_reducible intro hc; with_reducible exact Bool.noConfusion hc)
            | (with_reducible intro hc; have hC := And.intro hC hc))
        refine k_invX (k0 - 1) (by omega) ?_
        intro Ng
        refine ⟨_, _, wkE_id, rowsok_nil, i + 1, (by first | omega | (simp only [List.length_append, List.length_cons, List.length_nil, List.length_drop, List.length_take, List.length_map]; omega)), ?_, (by simp (maxDischargeDepth := 8) only [go_sem, e0_1, h0_3, hw, hNE, List.length_append, List.length_cons, List.length_nil, Nat.zero_add]; first | done | rfl), rfl⟩
        exact hr
    · have hlt := nlt_int hi
      rw [at_end hi] at hr
      have hr : true = R := hr
      subst hr
      (have hA := And.intro e0_1 (And.intro h0_3 (hlt)); have hP := True.intro; have hNE := True.intro; have hC := True.intro; repeat' first
          | with_reducible first | refine k_seq ?_ | refine t_seq ?_ | refine t_reg ?_ | refine t_nil ?_ | refine t_ret ?_ | refine t_exit ?_ | refine k_seq_exit ?_ | refine k_blk_exit ?_ | refine k_invX_exit ?_
          | refine ae_val ?_
          | refine a_cond ?_ ?_
          | (with_reducible intro hc; with_reducible exact Bool.noConfusion hc)
          | (with_reducible intro hc; have hC := And.intro hC hc))
      (first | apply pend rs12 | apply pendN rs12); (focus (simp only [go_sem, e0_1, h0_3]; first | done | exact rfl)); (focus (simp only [go_sem, e0_1, h0_3]; first | done | exact rfl))
  | true =>
    have g4 : decide ((u.bytes.length : Int) ≤ 4000) = false := by
      cases h : decide ((u.bytes.length : Int) ≤ 4000) with
      | false => rfl
      | true => exact absurd ⟨g3, h⟩ g6
    (refine ppure_of_T ok12 (by simp only [List.length_cons, List.length_nil]; decide) ?_; refine t_seq ?_)
    (have hA := And.intro g1 (And.intro g2 (And.intro g3 (And.intro g4 (g5)))); have hP := True.intro; have hNE := True.intro; have hC := True.intro; repeat' first
        | with_reducible first | refine k_seq ?_ | refine t_seq ?_ | refine t_reg ?_ | refine t_nil ?_ | refine t_skip ?_ | refine t_block ?_
        | refine ae_val ?_
        | refine ae_gval ?_
        | refine ae_box ?_
        | refine a_cond ?_ ?_
        | (with_reducible intro hc; with_reducible exact Bool.noConfusion hc)
        | (with_reducible intro hc; have hC := And.intro hC hc))
    refine t_loopX (fun (k0 : Nat) (E0 : Nat → PV) (H0 : Hp) => ∃ (i : Nat), i + k0 = u.recs.length ∧ ((u.recs.drop i).all fun s => !decide (260 < (s.length : Int))) = R ∧ E0 3 = .int .i64 (i : Int) ∧ H0 = hp []) (u.recs.length) ?_ ?_
    intro Ng
    refine ⟨_, _, wkE_id, rowsok_nil, 0, (by first | omega | rfl | assumption | (simp (maxDischargeDepth := 8) only [go_sem, cast0, hNE]; first | done | rfl | assumption | omega)), ?_, (by simp (maxDischargeDepth := 8) only [go_sem, cast0, hNE, List.length_append, List.length_cons, List.length_nil, Nat.zero_add]; first | done | rfl), rfl⟩
    · exact hR
    rintro k0 E0 H0 hfr0 ⟨i, hk, hr, h0_3, rfl⟩
    have e0_1 := hfr0 1 rfl
    simp (maxDischargeDepth := 8) only [go_sem, cast0, hNE] at e0_1
    clear hfr0
    by_cases hi : i < u.recs.length
    · obtain ⟨s, hx, hdr⟩ := at_list hi
      have hlt := lt_int hi
      have hw := wrap_next hi hl
      have hge : (0 : Int) ≤ (i : Int) := by omega
      rw [hdr, List.all_cons] at hr
      cases h2 : decide (260 < (s.length : Int)) with
      | true =>
        rw [h2] at hr
        have hr : false = R := hr
        subst hr
        (have hA := And.intro e0_1 (And.intro h0_3 (And.intro hlt (And.intro hge (And.intro hx (h2))))); have hP := True.intro; have hNE := True.intro; have hC := True.intro; repeat' first
            | with_reducible first | refine k_seq ?_ | refine t_seq ?_ | refine t_reg ?_ | refine t_nil ?_ | refine t_skip ?_ | refine t_ret ?_ | refine k_seq_ret ?_ | refine k_blk_ret ?_ | refine k_invX_ret ?_ | refine t_block ?_
            | refine ae_val ?_
            | refine a_cond ?_ ?_
            | (with_reducible intro hc; with_reducible exact Bool.noConfusion hc)
            | (with_reducible intro hc; have hC := And.intro hC hc))
        (first | apply pend rs12 | apply pendN rs12); (focus (simp (maxDischargeDepth := 8) only [hNE, go_sem, e0_1, h0_3]; first | done | exact rfl)); (focus (simp (maxDischargeDepth := 8) only [hNE, go_sem, e0_1, h0_3]; first | done | exact rfl))
      | false =>
        rw [h2, Bool.not_false, Bool.true_and] at hr
        (have hA := And.intro e0_1 (And.intro h0_3 (And.intro hlt (And.intro hge (And.intro hx (h2))))); have hP := True.intro; have hNE := True.intro; have hC := True.intro; repeat' first
            | with_reducible first | refine k_seq ?_ | refine t_seq ?_ | refine t_reg ?_ | refine t_nil ?_ | refine t_skip ?_ | refine k_blk ?_ | refine t_block ?_
            | refine ae_val ?_
            | refine a_cond ?_ ?_
            | (with_reducible intro hc; with_reducible exact Bool.noConfusion hc)
            | (with_reducible intro hc; have hC := And.intro hC hc))
        refine k_invX (k0 - 1) (by omega) ?_
        intro Ng
        refine ⟨_, _, wkE_id, rowsok_nil, i + 1, (by first | omega | (simp only [List.length_append, List.length_cons, List.length_nil, List.length_drop, List.length_take, List.length_map]; omega)), ?_, (by simp (maxDischargeDepth := 8) only [go_sem, e0_1, h0_3, hw, hNE, List.length_append, List.length_cons, List.length_nil, Nat.zero_add]; first | done | rfl), rfl⟩
        exact hr
    · have hlt := nlt_int hi
      rw [at_end hi] at hr
      have hr : true = R := hr
      subst hr
      (have hA := And.intro e0_1 (And.intro h0_3 (hlt)); have hP := True.intro; have hNE := True.intro; have hC := True.intro; repeat' first
          | with_reducible first | refine k_seq ?_ | refine t_seq ?_ | refine t_reg ?_ | refine t_nil ?_ | refine t_ret ?_ | refine t_exit ?_ | refine k_seq_exit ?_ | refine k_blk_exit ?_ | refine k_invX_exit ?_
          | refine ae_val ?_
          | refine a_cond ?_ ?_
          | (with_reducible intro hc; with_reducible exact Bool.noConfusion hc)
          | (with_reducible intro hc; have hC := And.intro hC hc))
      (first | apply pend rs12 | apply pendN rs12); (focus (simp only [go_sem, e0_1, h0_3]; first | done | exact rfl)); (focus (simp only [go_sem, e0_1, h0_3]; first | done | exact rfl))
end Go.Proofs.Ythdgdngdfijfhaa
namespace Go.Proofs.Ythdgdngdfijfhaa
open Go.RowKit Go.Proofs
set_option linter.unusedVariables false
set_option linter.unusedSimpArgs false
attribute [local irreducible] PPure CallN Tops TopsDm T
attribute [local go_sem] encS in
set_option maxHeartbeats 8000000 in
theorem g73 (u : Un) (a : Ac) (p : Nat) (hp : u.pos = p) (hpl : p ≤ u.recs.length + 1) (hl : u.recs.length ≤ 60) (hac : u.access = 0) (hk0 : 0 ≤ a.kind) (hk5 : a.kind ≤ 5) (l1 : Lab) (H : Hp)
    (hl1 : H l1 = some (.row true 1 (u.recs.map encS))) {K : PV → Hp → Prop}
    (hK : ∀ v1 H', OwnL H' v1 ((doneF u a).1.recs.map encS) → K (.tup [encO (doneF u a).1 v1 (.list .full []), encAn (doneF u a).2]) H') :
    CallsG Try.prog 73 [encO u (.arr l1 1 0 u.recs.length) (.list .full []), encAc a] H K := by
  have ll : ((u.recs.map encS).length : Nat) = u.recs.length := List.length_map ..
  have rr : (u.recs.take p).map encS ++ (u.recs.drop p).map encS = u.recs.map encS := by rw [← List.map_append, List.take_append_drop]
  have ew : (u.recs.take p ++ [a.bytes]).map encS = (u.recs.take p).map encS ++ [.str a.bytes] := by rw [List.map_append]; rfl
  simp only [encO, encAc, hp]
  by_cases hb : u.recs.length < p
  · skip
    (refine callsG_of_T ok73 (by simp only [List.length_cons, List.length_nil]; decide) ?_; refine t_seq ?_)
    have hNE := True.intro; have hC := True.intro; have hA := True.intro; have hP := True.intro
    (replace hA := hl1; replace hP := And.intro @p72' (True.intro); repeat' first | ((with_reducible apply gt_alloc); (refine ce_alloc ?_; intro la ha hn1; replace hNE := And.intro hNE hn1)) | ((with_reducible apply gt_box); (refine ce_boxL ?_; intro la ha hn1; replace hNE := And.intro hNE hn1)) | ((with_reducible apply gt_store); refine ce_store ?_) | ((with_reducible apply gt_g); first | refine ce_gval ?_ | refine ce_gno ?_ | refine ce_gskip ?_ | refine ce_gval2 ?_ | refine ce_gno2 ?_) | ((with_reducible apply gd_call); first | refine de_callS ?_ | refine de_callO ?_) | ((with_reducible apply gd_store); first | refine de_store ?_ | refine de_storeZ ?_) | ((with_reducible refine gd_appT app_22 ?_); first | (refine de_appendU app_22 c_9 ?_; intro la ha hn1; replace hNE := And.intro hNE hn1) | refine de_append app_22 c_9 ?_ ?_ | (refine de_appendL app_22 c_9 ?_; intro la ha hn1; replace hNE := And.intro hNE hn1) | (refine de_appendB app_22 c_9 ?_; intro la ha hn1; replace hNE := And.intro hNE hn1)) | ((with_reducible apply gt_cond); first | refine c_cond ?_ ?_ | refine c_condB ?_ ?_) | ((with_reducible apply gt_any); refine ce_val ?_) | ((with_reducible apply gd_any); refine de_val ?_) | ((with_reducible apply gt_drw); first | refine ce_drwA ?_ | refine ce_drwE ?_ | refine ce_drwK ?_ | refine ce_drwZ ?_) | with_reducible first | apply k_seq | apply t_seq | apply t_reg | apply t_nil | apply t_skip | apply t_ret | apply t_exit | apply k_seq_exit | apply k_seq_ret | apply k_blk_exit | refine k_blk_other (by decide) ?_ | apply k_blk_ret | apply k_blk | apply t_block | apply m_nil | (with_reducible intro hc; with_reducible exact Bool.noConfusion hc) | (with_reducible intro hc; replace hC := And.intro hC hc))
    all_goals first
      | (apply gendH rs73
         · (exact ev_eq)
         · refine hK (.arr l1 1 0 u.recs.length) _ (.inr ⟨l1, [], ?_, ?_⟩)
           · (have hA := And.intro hA (And.intro hac (And.intro hp (ll))); (try simp only [doneF, permF, seqF, stA]) <;> exact fin_eq)
           · (have hA := And.intro hA (And.intro hac (And.intro hp (And.intro rr (ew)))); (try simp only [doneF, permF, seqF, stA, List.append_nil, encS]) <;> exact sm_eq)
         · (have hA := And.intro hA (And.intro hac (hp)); (try simp only [doneF, permF, seqF, encO, encAn, stA]) <;> exact fin_eq))
      | (apply gendH rs73
         · (exact ev_eq)
         · refine hK (.arr la 1 0 (p + 1)) _ (.inr ⟨la, [], ?_, ?_⟩)
           · (have hA := And.intro hA (And.intro hac (And.intro hp (ll))); (try simp only [doneF, permF, seqF, stA]) <;> exact fin_eq)
           · (have hA := And.intro hA (And.intro hac (And.intro hp (And.intro rr (ew)))); (try simp only [doneF, permF, seqF, stA, List.append_nil, encS]) <;> exact sm_eq)
         · (have hA := And.intro hA (And.intro hac (hp)); (try simp only [doneF, permF, seqF, encO, encAn, stA]) <;> exact fin_eq))
      | (apply gendH rs73
         · (exact ev_eq)
         · refine hK (.arr l1 1 0 p) _ (.inr ⟨l1, ((u.recs.drop p).map encS), ?_, ?_⟩)
           · (have hA := And.intro hA (And.intro hac (And.intro hp (ll))); (try simp only [doneF, permF, seqF, stA]) <;> exact fin_eq)
           · (have hA := And.intro hA (And.intro hac (And.intro hp (And.intro rr (ew)))); (try simp only [doneF, permF, seqF, stA, List.append_nil, encS]) <;> exact sm_eq)
         · (have hA := And.intro hA (And.intro hac (hp)); (try simp only [doneF, permF, seqF, encO, encAn, stA]) <;> exact fin_eq))
      | fail
  · skip
    (refine callsG_of_T ok73 (by simp only [List.length_cons, List.length_nil]; decide) ?_; refine t_seq ?_)
    have hNE := True.intro; have hC := True.intro; have hA := True.intro; have hP := True.intro
    (replace hA := hl1; replace hP := And.intro @p72' (True.intro); repeat' first | ((with_reducible apply gt_alloc); (refine ce_alloc ?_; intro la ha hn1; replace hNE := And.intro hNE hn1)) | ((with_reducible apply gt_box); (refine ce_boxL ?_; intro la ha hn1; replace hNE := And.intro hNE hn1)) | ((with_reducible apply gt_store); refine ce_store ?_) | ((with_reducible apply gt_g); first | refine ce_gval ?_ | refine ce_gno ?_ | refine ce_gskip ?_ | refine ce_gval2 ?_ | refine ce_gno2 ?_) | ((with_reducible apply gd_call); first | refine de_callS ?_ | refine de_callO ?_) | ((with_reducible apply gd_store); first | refine de_store ?_ | refine de_storeZ ?_) | ((with_reducible refine gd_appT app_22 ?_); first | (refine de_appendU app_22 c_9 ?_; intro la ha hn1; replace hNE := And.intro hNE hn1) | refine de_append app_22 c_9 ?_ ?_ | (refine de_appendL app_22 c_9 ?_; intro la ha hn1; replace hNE := And.intro hNE hn1) | (refine de_appendB app_22 c_9 ?_; intro la ha hn1; replace hNE := And.intro hNE hn1)) | ((with_reducible apply gt_cond); first | refine c_cond ?_ ?_ | refine c_condB ?_ ?_) | ((with_reducible apply gt_any); refine ce_val ?_) | ((with_reducible apply gd_any); refine de_val ?_) | ((with_reducible apply gt_drw); first | refine ce_drwA ?_ | refine ce_drwE ?_ | refine ce_drwK ?_ | refine ce_drwZ ?_) | with_reducible first | apply k_seq | apply t_seq | apply t_reg | apply t_nil | apply t_skip | apply t_ret | apply t_exit | apply k_seq_exit | apply k_seq_ret | apply k_blk_exit | refine k_blk_other (by decide) ?_ | apply k_blk_ret | apply k_blk | apply t_block | apply m_nil | (with_reducible intro hc; with_reducible exact Bool.noConfusion hc) | (with_reducible intro hc; replace hC := And.intro hC hc))
    all_goals first
      | (apply gendH rs73
         · (exact ev_eq)
         · refine hK (.arr l1 1 0 u.recs.length) _ (.inr ⟨l1, [], ?_, ?_⟩)
           · (have hA := And.intro hA (And.intro hac (And.intro hp (ll))); (try simp only [doneF, permF, seqF, stA]) <;> exact fin_eq)
           · (have hA := And.intro hA (And.intro hac (And.intro hp (And.intro rr (ew)))); (try simp only [doneF, permF, seqF, stA, List.append_nil, encS]) <;> exact sm_eq)
         · (have hA := And.intro hA (And.intro hac (hp)); (try simp only [doneF, permF, seqF, encO, encAn, stA]) <;> exact fin_eq))
      | (apply gendH rs73
         · (exact ev_eq)
         · refine hK (.arr la 1 0 (p + 1)) _ (.inr ⟨la, [], ?_, ?_⟩)
           · (have hA := And.intro hA (And.intro hac (And.intro hp (ll))); (try simp only [doneF, permF, seqF, stA]) <;> exact fin_eq)
           · (have hA := And.intro hA (And.intro hac (And.intro hp (And.intro rr (ew)))); (try simp only [doneF, permF, seqF, stA, List.append_nil, encS]) <;> exact sm_eq)
         · (have hA := And.intro hA (And.intro hac (hp)); (try simp only [doneF, permF, seqF, encO, encAn, stA]) <;> exact fin_eq))
      | (apply gendH rs73
         · (exact ev_eq)
         · refine hK (.arr l1 1 0 p) _ (.inr ⟨l1, ((u.recs.drop p).map encS), ?_, ?_⟩)
           · (have hA := And.intro hA (And.intro hac (And.intro hp (ll))); (try simp only [doneF, permF, seqF, stA]) <;> exact fin_eq)
           · (have hA := And.intro hA (And.intro hac (And.intro hp (And.intro rr (ew)))); (try simp only [doneF, permF, seqF, stA, List.append_nil, encS]) <;> exact sm_eq)
         · (have hA := And.intro hA (And.intro hac (hp)); (try simp only [doneF, permF, seqF, encO, encAn, stA]) <;> exact fin_eq))
      | fail
end Go.Proofs.Ythdgdngdfijfhaa
namespace Go.Proofs.Ythdgdngdfijfhaa
open Go.RowKit Go.Proofs
set_option linter.unusedVariables false
set_option linter.unusedSimpArgs false
attribute [local irreducible] PPure CallN Tops TopsDm T
theorem btw_dec (n lo hi : Int) : btw n lo hi = decide (lo ≤ n ∧ n ≤ hi) := by simp [btw]
theorem p53d (n lo hi : Int) : PPure Try.prog 53 [.int .i64 n, .int .i64 lo, .int .i64 hi] (.bool (decide (lo ≤ n ∧ n ≤ hi))) := by rw [← btw_dec]; exact p53 n lo hi
set_option maxHeartbeats 8000000 in
theorem p75 (u : Un) (a : Ac) (hp0 : 0 ≤ u.pos) (hpl : u.pos ≤ u.bytes.length) (hbl : u.bytes.length ≤ 4000) (hal : a.bytes.length ≤ 4000) (hac : u.access = 2) (hk0 : 0 ≤ a.kind) (hk5 : a.kind ≤ 5) :
    PPure Try.prog 75 [encU u, encAc a] (.tup [encU (doneF u a).1, encAn (doneF u a).2]) := by
  simp only [encU, encAc]
  (refine ppure_of_T ok75 (by simp only [List.length_cons, List.length_nil]; decide) ?_; refine t_seq ?_)
  have hNE := True.intro; have hC := True.intro; have hA := True.intro; have hP := True.intro
  (replace hA := True.intro; replace hP := And.intro @p72' (And.intro @p53d (True.intro)); repeat' first | ((with_reducible apply gt_call); first | refine ce_callS ?_ | refine ce_callO ?_) | ((with_reducible apply gt_alloc); (refine ce_alloc ?_; intro la ha hn1; replace hNE := And.intro hNE hn1)) | ((with_reducible apply gt_box); (refine ce_boxL ?_; intro la ha hn1; replace hNE := And.intro hNE hn1)) | ((with_reducible apply gt_store); refine ce_store ?_) | ((with_reducible apply gd_call); first | refine de_callS ?_ | refine de_callO ?_) | ((with_reducible apply gd_store); first | refine de_store ?_ | refine de_storeZ ?_) | ((with_reducible apply gt_cond); first | refine c_cond ?_ ?_ | refine c_condB ?_ ?_) | ((with_reducible apply gt_any); refine ce_val ?_) | ((with_reducible apply gd_any); refine de_val ?_) | ((with_reducible apply gt_drw); first | refine ce_drwA ?_ | refine ce_drwE ?_ | refine ce_drwK ?_ | refine ce_drwZ ?_) | with_reducible first | apply k_seq | apply t_seq | apply t_reg | apply t_nil | apply t_skip | apply t_ret | apply t_exit | apply k_seq_exit | apply k_seq_ret | apply k_blk_exit | refine k_blk_other (by decide) ?_ | apply k_blk_ret | apply k_blk | apply t_block | apply m_nil | (with_reducible intro hc; with_reducible exact Bool.noConfusion hc) | (with_reducible intro hc; replace hC := And.intro hC hc))
  all_goals ((first | refine cpendE rs75 ?_ | refine cpendNE rs75 ?_); (have hA := And.intro hA hac; (try simp only [doneF, permF, strF, encU, encAn, stA, btw_dec]) <;> exact fin_eq))
end Go.Proofs.Ythdgdngdfijfhaa
namespace Go.Proofs.Ythdgdngdfijfhaa
open Go.RowKit Go.Proofs
set_option linter.unusedVariables false
set_option linter.unusedSimpArgs false
attribute [local irreducible] PPure CallN Tops TopsDm T
attribute [local go_sem] Int.toNat_natCast List.length_map List.length_replicate Nat.zero_add in
theorem n51 (xs : List (List UInt8)) (hl : xs.length ≤ 1000000) : CallN Try.prog 51 [.list .any (xs.map encS)] 1 (xs.map encS) := by
  have dr : List.drop xs.length (List.replicate xs.length (PV.str [])) = [] := List.drop_eq_nil_of_le (by simp)
  (refine callN_of_T ok51 (by simp only [List.length_cons, List.length_nil]; decide) ?_; refine t_seq ?_)
  have hNE := True.intro; have hC := True.intro; have hA := True.intro; have hP := True.intro
  (replace hA := True.intro; replace hP := True.intro; repeat' first | ((with_reducible refine gt_copyT app_22 ?_); first | refine ce_copy app_22 c_9 ?_) | ((with_reducible apply gt_make); first | (refine ce_makeSlice ?_; intro la ha hn1; replace hNE := And.intro hNE hn1)) | ((with_reducible apply gt_cond); first | refine c_cond ?_ ?_ | refine c_condB ?_ ?_) | ((with_reducible apply gt_any); refine ce_val ?_) | with_reducible first | apply k_seq | apply t_seq | apply t_reg | apply t_nil | apply t_skip | apply t_ret | apply t_exit | apply k_seq_exit | apply k_seq_ret | apply k_blk_exit | refine k_blk_other (by decide) ?_ | apply k_blk_ret | apply k_blk | apply t_block | apply m_nil | (with_reducible intro hc; with_reducible exact Bool.noConfusion hc) | (with_reducible intro hc; replace hC := And.intro hC hc))
  apply nend rs51; (focus (simp only [go_sem, dr, List.append_nil]; first | done | exact rfl)); (focus (simp only [go_sem, dr, List.append_nil]; first | done | exact rfl)); (focus (simp only [go_sem, dr, List.append_nil]; first | done | exact rfl))
theorem g14b (u : Un) (h2 : u.there = []) (hl : u.recs.length ≤ 1000) {K : PV → Hp → Prop} (H : Hp) (hK : ∀ l, H l = none → K (encO u (.arr l 1 0 u.recs.length) (.list .full [])) (upd H l (some (.row true 1 (u.recs.map encS))))) : CallsG Try.prog 14 [encU u] H K := by
  simp only [encU, h2, List.map_nil]
  (refine callsG_of_T ok14 (by simp only [List.length_cons, List.length_nil]; decide) ?_; refine t_seq ?_)
  have hNE := True.intro; have hC := True.intro; have hA := True.intro; have hP := True.intro
  (replace hA := True.intro; replace hP := True.intro; repeat' first | ((with_reducible apply gt_call); first | refine ce_callS ?_ | refine ce_callO ?_ | ((with_reducible apply te_callN); (focus (simp (maxDischargeDepth := 8) (disch := first | (with_reducible apply Om.mk; first | (simp (maxDischargeDepth := 8) only [go_sem, hNE, hA]; done) | (clear hP hC hNE hA; first | omega | (simp only [List.length_append, List.length_take, List.length_drop, List.length_map, List.length_replicate]; omega))) | (simp (maxDischargeDepth := 8) only [go_sem, hNE, hA]; done) | fail) only [go_sem, hNE, hA]; first | done | exact rfl)); (focus (simp (maxDischargeDepth := 8) (disch := first | (with_reducible apply Om.mk; first | (simp (maxDischargeDepth := 8) only [go_sem, hNE, hA]; done) | (clear hP hC hNE hA; first | omega | (simp only [List.length_append, List.length_take, List.length_drop, List.length_map, List.length_replicate]; omega))) | (simp (maxDischargeDepth := 8) only [go_sem, hNE, hA]; done) | fail) only [go_sem, hNE, hA]; first | done | exact rfl)); (first | exact n51 _ (by omega : u.recs.length ≤ 1000000)); (intro la ha hn1; replace hNE := And.intro hNE hn1))) | ((with_reducible apply gt_alloc); (refine ce_alloc ?_; intro la ha hn1; replace hNE := And.intro hNE hn1)) | ((with_reducible apply gt_box); (refine ce_boxL ?_; intro la ha hn1; replace hNE := And.intro hNE hn1)) | ((with_reducible apply gt_store); refine ce_store ?_) | ((with_reducible refine gt_appT app_23 ?_); first | refine ce_appendE app_23 c_4 ?_ | (refine ce_appendL app_23 c_4 ?_; intro la ha hn1; replace hNE := And.intro hNE hn1) | refine ce_append app_23 c_4 ?_ ?_ | (refine ce_appendB app_23 c_4 ?_; intro la ha hn1; replace hNE := And.intro hNE hn1)) | ((with_reducible apply gt_cond); first | refine c_cond ?_ ?_ | refine c_condB ?_ ?_) | ((with_reducible apply gt_any); refine ce_val ?_) | with_reducible first | apply k_seq | apply t_seq | apply t_reg | apply t_nil | apply t_skip | apply t_ret | apply t_exit | apply k_seq_exit | apply k_seq_ret | apply k_blk_exit | refine k_blk_other (by decide) ?_ | apply k_blk_ret | apply k_blk | apply t_block | apply m_nil | (with_reducible intro hc; with_reducible exact Bool.noConfusion hc) | (with_reducible intro hc; replace hC := And.intro hC hc))
  have q1 : H la = none := by (have t := ha; repeat first | exact t | replace t := (upd_none t).2)
  refine gend rs14 ?_ ?_ (hK la q1); (focus (simp (maxDischargeDepth := 8) only [go_sem, encO]; first | done | exact rfl)); (focus (repeat refine sub1 (by simp (maxDischargeDepth := 8) only [go_sem, encO, hNE]; first | done | rfl) ?_); (intro lq cq hlq; simp (maxDischargeDepth := 8) only [go_sem, encO, hNE, hlq]))
theorem g14c (u : Un) (h2 : u.there ≠ []) (hl : u.recs.length ≤ 1000) (hl2 : u.there.length ≤ 1000) {K : PV → Hp → Prop} (H : Hp)
    (hK : ∀ l l2, H l = none → H l2 = none → l2 ≠ l → K (encO u (.arr l 1 0 u.recs.length) (.arr l2 1 0 u.there.length)) (upd (upd H l (some (.row true 1 (u.recs.map encS)))) l2 (some (.row true 1 (u.there.map encB))))) : CallsG Try.prog 14 [encU u] H K := by
  have he : (u.there.map encB).isEmpty = false := by simpa using h2
  have hn : ¬ u.there.map encB = [] := by simpa using h2
  simp only [encU]
  (refine callsG_of_T ok14 (by simp only [List.length_cons, List.length_nil]; decide) ?_; refine t_seq ?_)
  have hNE := True.intro; have hC := True.intro; have hA := True.intro; have hP := True.intro
  (replace hA := And.intro he (hn); replace hP := True.intro; repeat' first | ((with_reducible apply gt_call); first | refine ce_callS ?_ | refine ce_callO ?_ | ((with_reducible apply te_callN); (focus (simp (maxDischargeDepth := 8) (disch := first | (with_reducible apply Om.mk; first | (simp (maxDischargeDepth := 8) only [go_sem, hNE, hA]; done) | (clear hP hC hNE hA; first | omega | (simp only [List.length_append, List.length_take, List.length_drop, List.length_map, List.length_replicate]; omega))) | (simp (maxDischargeDepth := 8) only [go_sem, hNE, hA]; done) | fail) only [go_sem, hNE, hA]; first | done | exact rfl)); (focus (simp (maxDischargeDepth := 8) (disch := first | (with_reducible apply Om.mk; first | (simp (maxDischargeDepth := 8) only [go_sem, hNE, hA]; done) | (clear hP hC hNE hA; first | omega | (simp only [List.length_append, List.length_take, List.length_drop, List.length_map, List.length_replicate]; omega))) | (simp (maxDischargeDepth := 8) only [go_sem, hNE, hA]; done) | fail) only [go_sem, hNE, hA]; first | done | exact rfl)); (first | exact n51 _ (by omega : u.recs.length ≤ 1000000)); (intro la ha hn1; replace hNE := And.intro hNE hn1))) | ((with_reducible apply gt_alloc); (refine ce_alloc ?_; intro la ha hn1; replace hNE := And.intro hNE hn1)) | ((with_reducible apply gt_box); (refine ce_boxL ?_; intro la ha hn1; replace hNE := And.intro hNE hn1)) | ((with_reducible apply gt_store); refine ce_store ?_) | ((with_reducible refine gt_appT app_23 ?_); first | refine ce_appendE app_23 c_4 ?_ | (refine ce_appendL app_23 c_4 ?_; intro la ha hn1; replace hNE := And.intro hNE hn1) | refine ce_append app_23 c_4 ?_ ?_ | (refine ce_appendB app_23 c_4 ?_; intro la ha hn1; replace hNE := And.intro hNE hn1)) | ((with_reducible apply gt_cond); first | refine c_cond ?_ ?_ | refine c_condB ?_ ?_) | ((with_reducible apply gt_any); refine ce_val ?_) | with_reducible first | apply k_seq | apply t_seq | apply t_reg | apply t_nil | apply t_skip | apply t_ret | apply t_exit | apply k_seq_exit | apply k_seq_ret | apply k_blk_exit | refine k_blk_other (by decide) ?_ | apply k_blk_ret | apply k_blk | apply t_block | apply m_nil | (with_reducible intro hc; with_reducible exact Bool.noConfusion hc) | (with_reducible intro hc; replace hC := And.intro hC hc))
  rename_i l1 a1 n1
  have q1 : H la = none := by (have t := ha; repeat first | exact t | replace t := (upd_none t).2)
  have q2 : H l1 = none := by (have t := a1; repeat first | exact t | replace t := (upd_none t).2)
  have q3 : la ≠ l1 := by (have t := ha; repeat first | exact (upd_none t).1 | replace t := (upd_none t).2)
  refine gend rs14 ?_ ?_ (hK l1 la q2 q1 q3); (focus (simp (maxDischargeDepth := 8) only [go_sem, encO]; first | done | exact rfl)); (focus (repeat refine sub1 (by simp (maxDischargeDepth := 8) only [go_sem, encO, hNE]; first | done | rfl) ?_); (intro lq cq hlq; simp (maxDischargeDepth := 8) only [go_sem, encO, hNE, hlq]))
end Go.Proofs.Ythdgdngdfijfhaa
namespace Go.Proofs.Ythdgdngdfijfhaa
open Go.RowKit Go.Proofs
set_option linter.unusedVariables false
set_option linter.unusedSimpArgs false
attribute [local irreducible] PPure CallN Tops TopsDm T
theorem take_in {α : Type} {l : List α} {i : Nat} (hi : i < l.length) : l.take (i + 1) = l.take i ++ [l[i]] := by
  rw [List.take_add_one, List.getElem?_eq_getElem hi]; rfl
theorem framesF_in {l : List (List UInt8)} {i : Nat} (hi : i < l.length) : framesF (l.take (i + 1)) = framesF (l.take i) ++ frmF 82 l[i] := by
  rw [take_in hi, framesF_append]; simp [framesF]
theorem p65w (w : Int) (h0 : 0 ≤ w) (h1 : w ≤ 200) : PPure Try.prog 65 [.int .i64 (w + 4)] (.str (List.replicate (w.toNat + 4) 0)) := by
  have := p65 (w.toNat + 4) (by omega)
  rwa [show ((w.toNat + 4 : Nat) : Int) = w + 4 by omega] at this
attribute [local go_sem] encS encB in
set_option maxHeartbeats 2000000 in
theorem p18 (u : Un) (h : Vu u) : PPure Try.prog 18 [encU u] (.str (bytesF u)) := by
  have hv := h
  obtain ⟨ha, hw, hn, hs, ht, hb, hp0, hp1⟩ | ⟨ha, hw0, hw1, hn, ht, hst, hl, hb, he, hpz⟩ | ⟨ha, hw, hn, ht, hb, he, hp0, hp1⟩ := h
  · have hfl : ∀ i, (framesF (u.recs.take i)).length ≤ 1000000 := by
      intro i
      have := framesF_len 200 (u.recs.take i) (fun s hm => hs s (List.mem_of_mem_take hm))
      have h1 : (u.recs.take i).length ≤ 60 := by rw [List.length_take]; omega
      have := Nat.mul_le_mul_right 208 h1
      omega
    have h3 : (frmF 69 []).length = 8 := frmF_len _ _
    have e1 : bytesF u = framesF u.recs ++ (if u.ended = true then frmF 69 [] else []) := by simp [bytesF, ha]
    have h69 := p63 69 [] (by simp)
    rw [e1]
    simp only [encU, ha, hb]
    (refine ppure_of_T ok18 (by simp only [List.length_cons, List.length_nil]; decide) ?_; refine t_seq ?_)
    have hNE := True.intro; have hC := True.intro; have hA := True.intro; have hP := True.intro
    (replace hA := True.intro; replace hP := True.intro; repeat' first | ((with_reducible apply gt_call); first | refine ce_callS ?_ | refine ce_callO ?_) | ((with_reducible apply gt_box); refine ce_box ?_) | ((with_reducible apply gt_cond); first | refine c_cond ?_ ?_ | refine c_condB ?_ ?_) | ((with_reducible apply gt_any); refine ce_val ?_) | with_reducible first | apply k_seq | apply t_seq | apply t_reg | apply t_nil | apply t_skip | apply t_ret | apply t_exit | apply k_seq_exit | apply k_seq_ret | apply k_blk_exit | refine k_blk_other (by decide) ?_ | apply k_blk_ret | apply k_blk | apply t_block | apply m_nil | (with_reducible intro hc; with_reducible exact Bool.noConfusion hc) | (with_reducible intro hc; replace hC := And.intro hC hc))
    refine t_loopX (fun (k0 : Nat) (E0 : Nat → PV) (H0 : Hp) => ∃ (i : Nat), i + k0 = u.recs.length ∧ (E0 4 = .int .i64 (i : Int) ∧ E0 3 = .str (framesF (u.recs.take i))) ∧ H0 = hp []) (u.recs.length) ?_ ?_
    intro Ng
    refine ⟨_, _, wkE_id, (by repeat' first | exact rowsok_nil | refine rowsok_cons ?_ ?_ | exact rowok_ghost (by assumption) | exact rowA | ((try simp only [cast0, List.take_zero, framesF]) <;> exact rowA)), 0, (by first | omega | rfl | assumption | (first | exact lv_eq | ((try simp only [cast0, List.take_zero, framesF]) <;> exact lv_eq) | (simp (maxDischargeDepth := 8) only [go_sem, hNE, hA, cast0, List.take_zero, framesF, List.length_append, List.length_cons, List.length_nil, Nat.zero_add]; first | done | rfl))), (by (repeat' apply And.intro) <;> first | exact lv_eq | ((try simp only [cast0, List.take_zero, framesF]) <;> exact lv_eq) | (simp (maxDischargeDepth := 8) only [go_sem, hNE, hA, cast0, List.take_zero, framesF, List.length_append, List.length_cons, List.length_nil, Nat.zero_add]; first | done | rfl)), rfl⟩
    rintro k0 E0 H0 hfr0 ⟨i, hk, ⟨h0_4, h0_3⟩, rfl⟩
    have e0_1 := hfr0 1 rfl; have e0_2 := hfr0 2 rfl
    simp (maxDischargeDepth := 8) only [go_sem, cast0, List.take_zero, framesF, hNE] at e0_1 e0_2
    clear hfr0
    by_cases hi : i < u.recs.length
    · have hxl := hs _ (List.getElem_mem hi)
      have h63 := p63 82 u.recs[i] (by omega)
      have hfx : (frmF 82 u.recs[i]).length = u.recs[i].length + 8 := frmF_len _ _
      have hfi := hfl i
      have e2 := framesF_in hi
      (replace hA := And.intro e0_1 (And.intro e0_2 (And.intro h0_4 (h0_3))); replace hP := And.intro h63 (True.intro); repeat' first | ((with_reducible apply gt_call); first | refine ce_callS ?_ | refine ce_callO ?_) | ((with_reducible apply gt_box); refine ce_box ?_) | ((with_reducible apply gt_cond); first | refine c_cond ?_ ?_ | refine c_condB ?_ ?_) | ((with_reducible apply gt_any); refine ce_val ?_) | with_reducible first | apply k_seq | apply t_seq | apply t_reg | apply t_nil | apply t_skip | apply t_ret | apply t_exit | apply k_seq_exit | apply k_seq_ret | apply k_blk_exit | refine k_blk_other (by decide) ?_ | apply k_blk_ret | apply k_blk | apply k_invX_ret | apply k_invX_exit | apply t_block | apply m_nil | (with_reducible intro hc; with_reducible exact Bool.noConfusion hc) | (with_reducible intro hc; replace hC := And.intro hC hc))
      refine k_invX (k0 - 1) (by omega) ?_
      intro Ng
      replace hA := And.intro hA (And.intro e0_1 (And.intro e0_2 (And.intro h0_4 (And.intro h0_3 (e2)))))
      refine ⟨_, _, wkE_id, (by repeat' first | exact rowsok_nil | refine rowsok_cons ?_ ?_ | exact rowok_ghost (by assumption) | exact rowA), i + 1, (by first | omega | (simp only [List.length_append, List.length_cons, List.length_nil, List.length_drop, List.length_take, List.length_map]; omega)), (by (repeat' apply And.intro) <;> exact lv_eq), rfl⟩
    · have hfi := hfl u.recs.length
      rw [List.take_length] at hfi
      have hil : i = u.recs.length := by omega
      subst hil
      (replace hA := And.intro e0_1 (And.intro e0_2 (And.intro h0_4 (h0_3))); replace hP := And.intro h69 (True.intro); repeat' first | ((with_reducible apply gt_call); first | refine ce_callS ?_ | refine ce_callO ?_) | ((with_reducible apply gt_box); refine ce_box ?_) | ((with_reducible apply gt_cond); first | refine c_cond ?_ ?_ | refine c_condB ?_ ?_) | ((with_reducible apply gt_any); refine ce_val ?_) | with_reducible first | apply k_seq | apply t_seq | apply t_reg | apply t_nil | apply t_skip | apply t_ret | apply t_exit | apply k_seq_exit | apply k_seq_ret | apply k_blk_exit | refine k_blk_other (by decide) ?_ | apply k_blk_ret | apply k_blk | apply k_invX_ret | apply k_invX_exit | apply t_block | apply m_nil | (with_reducible intro hc; with_reducible exact Bool.noConfusion hc) | (with_reducible intro hc; replace hC := And.intro hC hc))
      all_goals ((first | refine cpendE rs18 ?_ | refine cpendNE rs18 ?_); ((try simp only [List.take_length]) <;> exact fin_eq))
  · have e1 : bytesF u = slotsN u u.recs.length := by simp [bytesF, ha]
    rw [e1]
    have h65 := p65w u.width (by omega) hw1
    simp only [encU, ha, hb, he]
    (refine ppure_of_T ok18 (by simp only [List.length_cons, List.length_nil]; decide) ?_; refine t_seq ?_)
    have hNE := True.intro; have hC := True.intro; have hA := True.intro; have hP := True.intro
    (replace hA := True.intro; replace hP := True.intro; repeat' first | ((with_reducible apply gt_call); first | refine ce_callS ?_ | refine ce_callO ?_) | ((with_reducible apply gt_box); refine ce_box ?_) | ((with_reducible apply gt_cond); first | refine c_cond ?_ ?_ | refine c_condB ?_ ?_) | ((with_reducible apply gt_any); refine ce_val ?_) | with_reducible first | apply k_seq | apply t_seq | apply t_reg | apply t_nil | apply t_skip | apply t_ret | apply t_exit | apply k_seq_exit | apply k_seq_ret | apply k_blk_exit | refine k_blk_other (by decide) ?_ | apply k_blk_ret | apply k_blk | apply t_block | apply m_nil | (with_reducible intro hc; with_reducible exact Bool.noConfusion hc) | (with_reducible intro hc; replace hC := And.intro hC hc))
    refine t_loopX (fun (k0 : Nat) (E0 : Nat → PV) (H0 : Hp) => ∃ (i : Nat), i + k0 = u.recs.length ∧ (E0 4 = .int .i64 (i : Int) ∧ E0 3 = .str (slotsN u i)) ∧ H0 = hp []) (u.recs.length) ?_ ?_
    intro Ng
    refine ⟨_, _, wkE_id, (by repeat' first | exact rowsok_nil | refine rowsok_cons ?_ ?_ | exact rowok_ghost (by assumption) | exact rowA | ((try simp only [cast0, slotsN]) <;> exact rowA)), 0, (by first | omega | rfl | assumption | (first | exact lv_eq | ((try simp only [cast0, slotsN]) <;> exact lv_eq) | (simp (maxDischargeDepth := 8) only [go_sem, hNE, hA, cast0, slotsN, List.length_append, List.length_cons, List.length_nil, Nat.zero_add]; first | done | rfl))), (by (repeat' apply And.intro) <;> first | exact lv_eq | ((try simp only [cast0, slotsN]) <;> exact lv_eq) | (simp (maxDischargeDepth := 8) only [go_sem, hNE, hA, cast0, slotsN, List.length_append, List.length_cons, List.length_nil, Nat.zero_add]; first | done | rfl)), rfl⟩
    rintro k0 E0 H0 hfr0 ⟨i, hk, ⟨h0_4, h0_3⟩, rfl⟩
    have e0_1 := hfr0 1 rfl; have e0_2 := hfr0 2 rfl
    simp (maxDischargeDepth := 8) only [go_sem, cast0, slotsN, hNE] at e0_1 e0_2
    clear hfr0
    by_cases hi : i < u.recs.length
    · have hi2 : i < u.there.length := by omega
      have hsl := hst i _ _ (List.getElem?_eq_getElem hi) (List.getElem?_eq_getElem hi2)
      have hq := slotAt_len hv ha i
      have hq2 := slotsN_len hv ha i
      have hrl : u.recs[i].length ≤ 200 := by split at hsl <;> omega
      have h64 := p64 (i + 1) u.recs[i] (by omega) (by omega)
      have hsa : slotAt u i = if u.there[i] = true then sltF (i + 1) u.recs[i] else List.replicate (u.width.toNat + 4) 0 := by
        rw [slotAt, List.getElem?_eq_getElem hi2, List.getElem?_eq_getElem hi]; cases u.there[i] <;> rfl
      have e2 : slotsN u (i + 1) = slotsN u i ++ slotAt u i := rfl
      rw [hsa] at hq e2
      cases ht2 : u.there[i] with
      | true =>
        rw [ht2, if_pos rfl] at hq e2
        (replace hA := And.intro e0_1 (And.intro e0_2 (And.intro h0_4 (And.intro h0_3 (ht2)))); replace hP := And.intro h64 (True.intro); repeat' first | ((with_reducible apply gt_call); first | refine ce_callS ?_ | refine ce_callO ?_) | ((with_reducible apply gt_box); refine ce_box ?_) | ((with_reducible apply gt_cond); first | refine c_cond ?_ ?_ | refine c_condB ?_ ?_) | ((with_reducible apply gt_any); refine ce_val ?_) | with_reducible first | apply k_seq | apply t_seq | apply t_reg | apply t_nil | apply t_skip | apply t_ret | apply t_exit | apply k_seq_exit | apply k_seq_ret | apply k_blk_exit | refine k_blk_other (by decide) ?_ | apply k_blk_ret | apply k_blk | apply k_invX_ret | apply k_invX_exit | apply t_block | apply m_nil | (with_reducible intro hc; with_reducible exact Bool.noConfusion hc) | (with_reducible intro hc; replace hC := And.intro hC hc))
        refine k_invX (k0 - 1) (by omega) ?_
        intro Ng
        replace hA := And.intro hA (And.intro e0_1 (And.intro e0_2 (And.intro h0_4 (And.intro h0_3 (e2)))))
        refine ⟨_, _, wkE_id, (by repeat' first | exact rowsok_nil | refine rowsok_cons ?_ ?_ | exact rowok_ghost (by assumption) | exact rowA), i + 1, (by first | omega | (simp only [List.length_append, List.length_cons, List.length_nil, List.length_drop, List.length_take, List.length_map]; omega)), (by (repeat' apply And.intro) <;> exact lv_eq), rfl⟩
      | false =>
        rw [ht2, if_neg (by decide)] at hq e2
        (replace hA := And.intro e0_1 (And.intro e0_2 (And.intro h0_4 (And.intro h0_3 (ht2)))); replace hP := And.intro h65 (True.intro); repeat' first | ((with_reducible apply gt_call); first | refine ce_callS ?_ | refine ce_callO ?_) | ((with_reducible apply gt_box); refine ce_box ?_) | ((with_reducible apply gt_cond); first | refine c_cond ?_ ?_ | refine c_condB ?_ ?_) | ((with_reducible apply gt_any); refine ce_val ?_) | with_reducible first | apply k_seq | apply t_seq | apply t_reg | apply t_nil | apply t_skip | apply t_ret | apply t_exit | apply k_seq_exit | apply k_seq_ret | apply k_blk_exit | refine k_blk_other (by decide) ?_ | apply k_blk_ret | apply k_blk | apply k_invX_ret | apply k_invX_exit | apply t_block | apply m_nil | (with_reducible intro hc; with_reducible exact Bool.noConfusion hc) | (with_reducible intro hc; replace hC := And.intro hC hc))
        refine k_invX (k0 - 1) (by omega) ?_
        intro Ng
        replace hA := And.intro hA (And.intro e0_1 (And.intro e0_2 (And.intro h0_4 (And.intro h0_3 (e2)))))
        refine ⟨_, _, wkE_id, (by repeat' first | exact rowsok_nil | refine rowsok_cons ?_ ?_ | exact rowok_ghost (by assumption) | exact rowA), i + 1, (by first | omega | (simp only [List.length_append, List.length_cons, List.length_nil, List.length_drop, List.length_take, List.length_map]; omega)), (by (repeat' apply And.intro) <;> exact lv_eq), rfl⟩
    · have hil : i = u.recs.length := by omega
      subst hil
      (replace hA := And.intro e0_1 (And.intro e0_2 (And.intro h0_4 (h0_3))); replace hP := True.intro; repeat' first | ((with_reducible apply gt_call); first | refine ce_callS ?_ | refine ce_callO ?_) | ((with_reducible apply gt_box); refine ce_box ?_) | ((with_reducible apply gt_cond); first | refine c_cond ?_ ?_ | refine c_condB ?_ ?_) | ((with_reducible apply gt_any); refine ce_val ?_) | with_reducible first | apply k_seq | apply t_seq | apply t_reg | apply t_nil | apply t_skip | apply t_ret | apply t_exit | apply k_seq_exit | apply k_seq_ret | apply k_blk_exit | refine k_blk_other (by decide) ?_ | apply k_blk_ret | apply k_blk | apply k_invX_ret | apply k_invX_exit | apply t_block | apply m_nil | (with_reducible intro hc; with_reducible exact Bool.noConfusion hc) | (with_reducible intro hc; replace hC := And.intro hC hc))
      all_goals ((first | refine cpendE rs18 ?_ | refine cpendNE rs18 ?_); (exact fin_eq))
  · have e1 : bytesF u = u.bytes := by simp [bytesF, ha]
    rw [e1]
    have hr := hn
    simp only [encU, ha, he, hr, List.map_nil]
    (refine ppure_of_T ok18 (by simp only [List.length_cons, List.length_nil]; decide) ?_; refine t_seq ?_)
    have hNE := True.intro; have hC := True.intro; have hA := True.intro; have hP := True.intro
    (replace hA := True.intro; replace hP := True.intro; repeat' first | ((with_reducible apply gt_call); first | refine ce_callS ?_ | refine ce_callO ?_) | ((with_reducible apply gt_box); refine ce_box ?_) | ((with_reducible apply gt_cond); first | refine c_cond ?_ ?_ | refine c_condB ?_ ?_) | ((with_reducible apply gt_any); refine ce_val ?_) | with_reducible first | apply k_seq | apply t_seq | apply t_reg | apply t_nil | apply t_skip | apply t_ret | apply t_exit | apply k_seq_exit | apply k_seq_ret | apply k_blk_exit | refine k_blk_other (by decide) ?_ | apply k_blk_ret | apply k_blk | apply t_block | apply m_nil | (with_reducible intro hc; with_reducible exact Bool.noConfusion hc) | (with_reducible intro hc; replace hC := And.intro hC hc))
    refine t_loopX (fun (k0 : Nat) (E0 : Nat → PV) (H0 : Hp) => ∃ (i : Nat), i = 0 ∧ (E0 4 = .int .i64 (i : Int) ∧ E0 3 = .str u.bytes) ∧ H0 = hp []) (0) ?_ ?_
    intro Ng
    refine ⟨_, _, wkE_id, (by repeat' first | exact rowsok_nil | refine rowsok_cons ?_ ?_ | exact rowok_ghost (by assumption) | exact rowA | ((try simp only [cast0]) <;> exact rowA)), 0, (by first | omega | rfl | assumption | (first | exact lv_eq | ((try simp only [cast0]) <;> exact lv_eq) | (simp (maxDischargeDepth := 8) only [go_sem, hNE, hA, cast0, List.length_append, List.length_cons, List.length_nil, Nat.zero_add]; first | done | rfl))), (by (repeat' apply And.intro) <;> first | exact lv_eq | ((try simp only [cast0]) <;> exact lv_eq) | (simp (maxDischargeDepth := 8) only [go_sem, hNE, hA, cast0, List.length_append, List.length_cons, List.length_nil, Nat.zero_add]; first | done | rfl)), rfl⟩
    rintro k0 E0 H0 hfr0 ⟨i, hk, ⟨h0_4, h0_3⟩, rfl⟩
    have e0_1 := hfr0 1 rfl; have e0_2 := hfr0 2 rfl
    simp (maxDischargeDepth := 8) only [go_sem, cast0, hNE] at e0_1 e0_2
    clear hfr0
    have hi0 : i = 0 := by omega
    subst hi0
    (replace hA := And.intro e0_1 (And.intro e0_2 (And.intro h0_4 (h0_3))); replace hP := True.intro; repeat' first | ((with_reducible apply gt_call); first | refine ce_callS ?_ | refine ce_callO ?_) | ((with_reducible apply gt_box); refine ce_box ?_) | ((with_reducible apply gt_cond); first | refine c_cond ?_ ?_ | refine c_condB ?_ ?_) | ((with_reducible apply gt_any); refine ce_val ?_) | with_reducible first | apply k_seq | apply t_seq | apply t_reg | apply t_nil | apply t_skip | apply t_ret | apply t_exit | apply k_seq_exit | apply k_seq_ret | apply k_blk_exit | refine k_blk_other (by decide) ?_ | apply k_blk_ret | apply k_blk | apply k_invX_ret | apply k_invX_exit | apply t_block | apply m_nil | (with_reducible intro hc; with_reducible exact Bool.noConfusion hc) | (with_reducible intro hc; replace hC := And.intro hC hc))
    all_goals ((first | refine cpendE rs18 ?_ | refine cpendNE rs18 ?_); (exact fin_eq))
end Go.Proofs.Ythdgdngdfijfhaa
namespace Go.Proofs.Ythdgdngdfijfhaa
open Go.RowKit Go.Proofs
set_option linter.unusedVariables false
set_option linter.unusedSimpArgs false
attribute [local irreducible] PPure CallN Tops TopsDm T
attribute [local go_sem] encI List.length_cons List.length_map in
theorem p83 : ∀ l : List Int, l.length ≤ 1000 → PPure Try.prog 83 [.list .any (l.map encI), .list .any (l.map encI)] (.bool false)
  | [], _ => by
    simp only [List.map_nil]
    (refine ppure_of_T ok83 (by simp only [List.length_cons, List.length_nil]; decide) ?_; refine t_seq ?_)
    have hNE := True.intro; have hC := True.intro; have hA := True.intro; have hP := True.intro
    (replace hA := True.intro; replace hP := True.intro; repeat' first | ((with_reducible apply gt_g); first | refine ce_gval ?_ | refine ce_gno ?_ | refine ce_gskip ?_ | refine ce_gval2 ?_ | refine ce_gno2 ?_) | ((with_reducible apply gd_gcall); first | refine de_gcallS ?_ | refine de_gcallO ?_ | refine de_gcall2 ?_ | refine de_gno ?_ | refine de_gskip ?_ | refine de_gno2 ?_) | ((with_reducible apply gd_g); first | refine de_gval ?_ | refine de_gno ?_ | refine de_gskip ?_ | refine de_gval2 ?_ | refine de_gno2 ?_) | ((with_reducible apply gt_cond); first | refine c_cond ?_ ?_ | refine c_condB ?_ ?_) | ((with_reducible apply gt_any); refine ce_val ?_) | ((with_reducible apply gd_any); refine de_val ?_) | ((with_reducible apply gt_drw); first | refine ce_drwA ?_ | refine ce_drwE ?_ | refine ce_drwK ?_ | refine ce_drwZ ?_) | with_reducible first | apply k_seq | apply t_seq | apply t_reg | apply t_nil | apply t_skip | apply t_ret | apply t_exit | apply k_seq_exit | apply k_seq_ret | apply k_blk_exit | refine k_blk_other (by decide) ?_ | apply k_blk_ret | apply k_blk | apply t_block | apply m_nil | (with_reducible intro hc; with_reducible exact Bool.noConfusion hc) | (with_reducible intro hc; replace hC := And.intro hC hc))
    all_goals ((first | refine cpendE rs83 ?_ | refine cpendNE rs83 ?_); (exact fin_eq))
  | x :: l, hl => by
    have hl2 : l.length ≤ 1000 := by simp at hl; omega
    have h1 := p83 l hl2
    simp only [List.map_cons, encI] at h1 ⊢
    (refine ppure_of_T ok83 (by simp only [List.length_cons, List.length_nil]; decide) ?_; refine t_seq ?_)
    have hNE := True.intro; have hC := True.intro; have hA := True.intro; have hP := True.intro
    (replace hA := True.intro; replace hP := And.intro h1 (True.intro); repeat' first | ((with_reducible apply gt_g); first | refine ce_gval ?_ | refine ce_gno ?_ | refine ce_gskip ?_ | refine ce_gval2 ?_ | refine ce_gno2 ?_) | ((with_reducible apply gd_gcall); first | refine de_gcallS ?_ | refine de_gcallO ?_ | refine de_gcall2 ?_ | refine de_gno ?_ | refine de_gskip ?_ | refine de_gno2 ?_) | ((with_reducible apply gd_g); first | refine de_gval ?_ | refine de_gno ?_ | refine de_gskip ?_ | refine de_gval2 ?_ | refine de_gno2 ?_) | ((with_reducible apply gt_cond); first | refine c_cond ?_ ?_ | refine c_condB ?_ ?_) | ((with_reducible apply gt_any); refine ce_val ?_) | ((with_reducible apply gd_any); refine de_val ?_) | ((with_reducible apply gt_drw); first | refine ce_drwA ?_ | refine ce_drwE ?_ | refine ce_drwK ?_ | refine ce_drwZ ?_) | with_reducible first | apply k_seq | apply t_seq | apply t_reg | apply t_nil | apply t_skip | apply t_ret | apply t_exit | apply k_seq_exit | apply k_seq_ret | apply k_blk_exit | refine k_blk_other (by decide) ?_ | apply k_blk_ret | apply k_blk | apply t_block | apply m_nil | (with_reducible intro hc; with_reducible exact Bool.noConfusion hc) | (with_reducible intro hc; replace hC := And.intro hC hc))
    all_goals ((first | refine cpendE rs83 ?_ | refine cpendNE rs83 ?_); (exact fin_eq))
theorem p44 (l : List Int) (hl : l.length ≤ 1000) : PPure Try.prog 44 [.list .any (l.map encI), .list .any (l.map encI)] (.bool true) := by
  have h1 := p83 l hl
  (refine ppure_of_T ok44 (by simp only [List.length_cons, List.length_nil]; decide) ?_; refine t_seq ?_)
  have hNE := True.intro; have hC := True.intro; have hA := True.intro; have hP := True.intro
  (replace hA := True.intro; replace hP := And.intro h1 (True.intro); repeat' first | ((with_reducible apply gt_gcall); first | refine ce_gcallS ?_ | refine ce_gcallO ?_ | refine ce_gcall2 ?_ | refine ce_gno ?_ | refine ce_gskip ?_ | refine ce_gno2 ?_) | ((with_reducible apply gt_g); first | refine ce_gval ?_ | refine ce_gno ?_ | refine ce_gskip ?_ | refine ce_gval2 ?_ | refine ce_gno2 ?_) | ((with_reducible apply gt_cond); first | refine c_cond ?_ ?_ | refine c_condB ?_ ?_) | ((with_reducible apply gt_any); refine ce_val ?_) | with_reducible first | apply k_seq | apply t_seq | apply t_reg | apply t_nil | apply t_skip | apply t_ret | apply t_exit | apply k_seq_exit | apply k_seq_ret | apply k_blk_exit | refine k_blk_other (by decide) ?_ | apply k_blk_ret | apply k_blk | apply t_block | apply m_nil | (with_reducible intro hc; with_reducible exact Bool.noConfusion hc) | (with_reducible intro hc; replace hC := And.intro hC hc))
  all_goals ((first | refine cpendE rs44 ?_ | refine cpendNE rs44 ?_); (exact fin_eq))
def shA (a : Ac) : Prop := (a.bytes.length : Int) ≤ 260 ∨ 4001 ≤ (a.bytes.length : Int) ∧ (a.bytes.length : Int) ≤ 4003
def shortP (l : List Ac) : Prop := ((l.length : Int) ≤ 30 ∨ 61 ≤ (l.length : Int) ∧ (l.length : Int) ≤ 63) ∧ ∀ a ∈ l, shA a
noncomputable instance (l : List Ac) : Decidable (shortP l) := Classical.propDecidable _
attribute [local go_sem] encAc in
theorem p23y (l : List Ac) (h : shortP l) : PPure Try.prog 23 [.list .any (l.map encAc)] (.bool true) := by
  obtain ⟨h0, ha⟩ := h
  (refine ppure_of_T ok23 (by simp only [List.length_cons, List.length_nil]; decide) ?_; refine t_seq ?_)
  have hNE := True.intro; have hC := True.intro; have hA := True.intro; have hP := True.intro
  (replace hA := True.intro; replace hP := And.intro @p53d (True.intro); repeat' first | ((with_reducible apply gt_gcall); first | refine ce_gcallS ?_ | refine ce_gcallO ?_ | refine ce_gcall2 ?_ | refine ce_gno ?_ | refine ce_gskip ?_ | refine ce_gno2 ?_) | ((with_reducible apply gt_g); first | refine ce_gval ?_ | refine ce_gno ?_ | refine ce_gskip ?_ | refine ce_gval2 ?_ | refine ce_gno2 ?_) | ((with_reducible apply gt_cond); first | refine c_cond ?_ ?_ | refine c_condB ?_ ?_) | ((with_reducible apply gt_any); refine ce_val ?_) | with_reducible first | apply k_seq | apply t_seq | apply t_reg | apply t_nil | apply t_skip | apply t_ret | apply t_exit | apply k_seq_exit | apply k_seq_ret | apply k_blk_exit | refine k_blk_other (by decide) ?_ | apply k_blk_ret | apply k_blk | apply t_block | apply m_nil | (with_reducible intro hc; with_reducible exact Bool.noConfusion hc) | (with_reducible intro hc; replace hC := And.intro hC hc))
  refine t_loopX (fun (k0 : Nat) (E0 : Nat → PV) (H0 : Hp) => ∃ (i : Nat), i + k0 = l.length ∧ (E0 3 = .int .i64 (i : Int)) ∧ H0 = hp []) (l.length) ?_ ?_
  intro Ng
  refine ⟨_, _, wkE_id, (by repeat' first | exact rowsok_nil | refine rowsok_cons ?_ ?_ | exact rowok_ghost (by assumption) | exact rowA | ((try simp only [cast0]) <;> exact rowA)), 0, (by first | omega | rfl | assumption | (first | exact lv_eq | ((try simp only [cast0]) <;> exact lv_eq) | (simp (maxDischargeDepth := 8) only [go_sem, hNE, hA, cast0, List.length_append, List.length_cons, List.length_nil, Nat.zero_add]; first | done | rfl))), (by (repeat' apply And.intro) <;> first | exact lv_eq | ((try simp only [cast0]) <;> exact lv_eq) | (simp (maxDischargeDepth := 8) only [go_sem, hNE, hA, cast0, List.length_append, List.length_cons, List.length_nil, Nat.zero_add]; first | done | rfl)), rfl⟩
  rintro k0 E0 H0 hfr0 ⟨i, hk, h0_3, rfl⟩
  have e0_0 := hfr0 0 rfl
  simp (maxDischargeDepth := 8) only [go_sem, cast0, hNE] at e0_0
  clear hfr0
  by_cases hi : i < l.length
  · have hx := ha _ (List.getElem_mem hi)
    unfold shA at hx
    (replace hA := And.intro e0_0 (h0_3); replace hP := And.intro @p53d (True.intro); repeat' first | ((with_reducible apply gt_gcall); first | refine ce_gcallS ?_ | refine ce_gcallO ?_ | refine ce_gcall2 ?_ | refine ce_gno ?_ | refine ce_gskip ?_ | refine ce_gno2 ?_) | ((with_reducible apply gt_g); first | refine ce_gval ?_ | refine ce_gno ?_ | refine ce_gskip ?_ | refine ce_gval2 ?_ | refine ce_gno2 ?_) | ((with_reducible apply gt_cond); first | refine c_cond ?_ ?_ | refine c_condB ?_ ?_) | ((with_reducible apply gt_any); refine ce_val ?_) | with_reducible first | apply k_seq | apply t_seq | apply t_reg | apply t_nil | apply t_skip | apply t_ret | apply t_exit | apply k_seq_exit | apply k_seq_ret | apply k_blk_exit | refine k_blk_other (by decide) ?_ | apply k_blk_ret | apply k_blk | apply k_invX_ret | apply k_invX_exit | apply t_block | apply m_nil | (with_reducible intro hc; with_reducible exact Bool.noConfusion hc) | (with_reducible intro hc; replace hC := And.intro hC hc))
    refine k_invX (k0 - 1) (by omega) ?_
    intro Ng
    replace hA := And.intro hA (And.intro e0_0 (h0_3))
    refine ⟨_, _, wkE_id, (by repeat' first | exact rowsok_nil | refine rowsok_cons ?_ ?_ | exact rowok_ghost (by assumption) | exact rowA), i + 1, (by first | omega | (simp only [List.length_append, List.length_cons, List.length_nil, List.length_drop, List.length_take, List.length_map]; omega)), (by (repeat' apply And.intro) <;> exact lv_eq), rfl⟩
  · (replace hA := And.intro e0_0 (h0_3); replace hP := True.intro; repeat' first | ((with_reducible apply gt_gcall); first | refine ce_gcallS ?_ | refine ce_gcallO ?_ | refine ce_gcall2 ?_ | refine ce_gno ?_ | refine ce_gskip ?_ | refine ce_gno2 ?_) | ((with_reducible apply gt_g); first | refine ce_gval ?_ | refine ce_gno ?_ | refine ce_gskip ?_ | refine ce_gval2 ?_ | refine ce_gno2 ?_) | ((with_reducible apply gt_cond); first | refine c_cond ?_ ?_ | refine c_condB ?_ ?_) | ((with_reducible apply gt_any); refine ce_val ?_) | with_reducible first | apply k_seq | apply t_seq | apply t_reg | apply t_nil | apply t_skip | apply t_ret | apply t_exit | apply k_seq_exit | apply k_seq_ret | apply k_blk_exit | refine k_blk_other (by decide) ?_ | apply k_blk_ret | apply k_blk | apply k_invX_ret | apply k_invX_exit | apply t_block | apply m_nil | (with_reducible intro hc; with_reducible exact Bool.noConfusion hc) | (with_reducible intro hc; replace hC := And.intro hC hc))
    all_goals ((first | refine cpendE rs23 ?_ | refine cpendNE rs23 ?_); (exact fin_eq))
attribute [local go_sem] encAc in
theorem p23n (l : List Ac) (h : ¬ shortP l) : PPure Try.prog 23 [.list .any (l.map encAc)] (.bool false) := by
  by_cases h0 : (l.length : Int) ≤ 30 ∨ 61 ≤ (l.length : Int) ∧ (l.length : Int) ≤ 63
  · have hb : ¬ ∀ a ∈ l, shA a := fun h2 => h ⟨h0, h2⟩
    (refine ppure_of_T ok23 (by simp only [List.length_cons, List.length_nil]; decide) ?_; refine t_seq ?_)
    have hNE := True.intro; have hC := True.intro; have hA := True.intro; have hP := True.intro
    (replace hA := True.intro; replace hP := And.intro @p53d (True.intro); repeat' first | ((with_reducible apply gt_gcall); first | refine ce_gcallS ?_ | refine ce_gcallO ?_ | refine ce_gcall2 ?_ | refine ce_gno ?_ | refine ce_gskip ?_ | refine ce_gno2 ?_) | ((with_reducible apply gt_g); first | refine ce_gval ?_ | refine ce_gno ?_ | refine ce_gskip ?_ | refine ce_gval2 ?_ | refine ce_gno2 ?_) | ((with_reducible apply gt_cond); first | refine c_cond ?_ ?_ | refine c_condB ?_ ?_) | ((with_reducible apply gt_any); refine ce_val ?_) | with_reducible first | apply k_seq | apply t_seq | apply t_reg | apply t_nil | apply t_skip | apply t_ret | apply t_exit | apply k_seq_exit | apply k_seq_ret | apply k_blk_exit | refine k_blk_other (by decide) ?_ | apply k_blk_ret | apply k_blk | apply t_block | apply m_nil | (with_reducible intro hc; with_reducible exact Bool.noConfusion hc) | (with_reducible intro hc; replace hC := And.intro hC hc))
    refine t_loopX (fun (k0 : Nat) (E0 : Nat → PV) (H0 : Hp) => ∃ (i : Nat), i + k0 = l.length ∧ (∀ a ∈ l.take i, shA a) ∧ (E0 3 = .int .i64 (i : Int)) ∧ H0 = hp []) (l.length) ?_ ?_
    intro Ng
    refine ⟨_, _, wkE_id, (by repeat' first | exact rowsok_nil | refine rowsok_cons ?_ ?_ | exact rowok_ghost (by assumption) | exact rowA | ((try simp only [cast0]) <;> exact rowA)), 0, (by first | omega | rfl | assumption | (first | exact lv_eq | ((try simp only [cast0]) <;> exact lv_eq) | (simp (maxDischargeDepth := 8) only [go_sem, hNE, hA, cast0, List.length_append, List.length_cons, List.length_nil, Nat.zero_add]; first | done | rfl))), ?_, (by (repeat' apply And.intro) <;> first | exact lv_eq | ((try simp only [cast0]) <;> exact lv_eq) | (simp (maxDischargeDepth := 8) only [go_sem, hNE, hA, cast0, List.length_append, List.length_cons, List.length_nil, Nat.zero_add]; first | done | rfl)), rfl⟩
    · intro a h; cases h
    rintro k0 E0 H0 hfr0 ⟨i, hk, hr, h0_3, rfl⟩
    have e0_0 := hfr0 0 rfl
    simp (maxDischargeDepth := 8) only [go_sem, cast0, hNE] at e0_0
    clear hfr0
    by_cases hi : i < l.length
    · by_cases hx : shA l[i]
      · have hr2 : ∀ a ∈ l.take (i + 1), shA a := by
          intro a h; rw [take_in hi] at h
          rcases List.mem_append.1 h with h | h
          · exact hr a h
          · cases List.mem_singleton.1 h; exact hx
        unfold shA at hx
        (replace hA := And.intro e0_0 (h0_3); replace hP := And.intro @p53d (True.intro); repeat' first | ((with_reducible apply gt_gcall); first | refine ce_gcallS ?_ | refine ce_gcallO ?_ | refine ce_gcall2 ?_ | refine ce_gno ?_ | refine ce_gskip ?_ | refine ce_gno2 ?_) | ((with_reducible apply gt_g); first | refine ce_gval ?_ | refine ce_gno ?_ | refine ce_gskip ?_ | refine ce_gval2 ?_ | refine ce_gno2 ?_) | ((with_reducible apply gt_cond); first | refine c_cond ?_ ?_ | refine c_condB ?_ ?_) | ((with_reducible apply gt_any); refine ce_val ?_) | with_reducible first | apply k_seq | apply t_seq | apply t_reg | apply t_nil | apply t_skip | apply t_ret | apply t_exit | apply k_seq_exit | apply k_seq_ret | apply k_blk_exit | refine k_blk_other (by decide) ?_ | apply k_blk_ret | apply k_blk | apply k_invX_ret | apply k_invX_exit | apply t_block | apply m_nil | (with_reducible intro hc; with_reducible exact Bool.noConfusion hc) | (with_reducible intro hc; replace hC := And.intro hC hc))
        refine k_invX (k0 - 1) (by omega) ?_
        intro Ng
        replace hA := And.intro hA (And.intro e0_0 (h0_3))
        refine ⟨_, _, wkE_id, (by repeat' first | exact rowsok_nil | refine rowsok_cons ?_ ?_ | exact rowok_ghost (by assumption) | exact rowA), i + 1, (by first | omega | (simp only [List.length_append, List.length_cons, List.length_nil, List.length_drop, List.length_take, List.length_map]; omega)), ?_, (by (repeat' apply And.intro) <;> exact lv_eq), rfl⟩
        exact hr2
      · unfold shA at hx
        (replace hA := And.intro e0_0 (h0_3); replace hP := And.intro @p53d (True.intro); repeat' first | ((with_reducible apply gt_gcall); first | refine ce_gcallS ?_ | refine ce_gcallO ?_ | refine ce_gcall2 ?_ | refine ce_gno ?_ | refine ce_gskip ?_ | refine ce_gno2 ?_) | ((with_reducible apply gt_g); first | refine ce_gval ?_ | refine ce_gno ?_ | refine ce_gskip ?_ | refine ce_gval2 ?_ | refine ce_gno2 ?_) | ((with_reducible apply gt_cond); first | refine c_cond ?_ ?_ | refine c_condB ?_ ?_) | ((with_reducible apply gt_any); refine ce_val ?_) | with_reducible first | apply k_seq | apply t_seq | apply t_reg | apply t_nil | apply t_skip | apply t_ret | apply t_exit | apply k_seq_exit | apply k_seq_ret | apply k_blk_exit | refine k_blk_other (by decide) ?_ | apply k_blk_ret | apply k_blk | apply k_invX_ret | apply k_invX_exit | apply t_block | apply m_nil | (with_reducible intro hc; with_reducible exact Bool.noConfusion hc) | (with_reducible intro hc; replace hC := And.intro hC hc))
        all_goals ((first | refine cpendE rs23 ?_ | refine cpendNE rs23 ?_); (exact fin_eq))
    · exact absurd (fun a h => hr a (by rw [List.take_of_length_le (by omega)]; exact h)) hb
  · (refine ppure_of_T ok23 (by simp only [List.length_cons, List.length_nil]; decide) ?_; refine t_seq ?_)
    have hNE := True.intro; have hC := True.intro; have hA := True.intro; have hP := True.intro
    (replace hA := True.intro; replace hP := And.intro @p53d (True.intro); repeat' first | ((with_reducible apply gt_gcall); first | refine ce_gcallS ?_ | refine ce_gcallO ?_ | refine ce_gcall2 ?_ | refine ce_gno ?_ | refine ce_gskip ?_ | refine ce_gno2 ?_) | ((with_reducible apply gt_g); first | refine ce_gval ?_ | refine ce_gno ?_ | refine ce_gskip ?_ | refine ce_gval2 ?_ | refine ce_gno2 ?_) | ((with_reducible apply gt_cond); first | refine c_cond ?_ ?_ | refine c_condB ?_ ?_) | ((with_reducible apply gt_any); refine ce_val ?_) | with_reducible first | apply k_seq | apply t_seq | apply t_reg | apply t_nil | apply t_skip | apply t_ret | apply t_exit | apply k_seq_exit | apply k_seq_ret | apply k_blk_exit | refine k_blk_other (by decide) ?_ | apply k_blk_ret | apply k_blk | apply t_block | apply m_nil | (with_reducible intro hc; with_reducible exact Bool.noConfusion hc) | (with_reducible intro hc; replace hC := And.intro hC hc))
    all_goals ((first | refine cpendE rs23 ?_ | refine cpendNE rs23 ?_); (exact fin_eq))
end Go.Proofs.Ythdgdngdfijfhaa
namespace Go.Proofs.Ythdgdngdfijfhaa
open Go.RowKit Go.Proofs
set_option linter.unusedVariables false
set_option linter.unusedSimpArgs false
attribute [local irreducible] PPure CallN Tops TopsDm T
def padS (w : Int) (s : List UInt8) : List UInt8 := s ++ List.replicate (w - (s.length : Int)).toNat 32
def setR (u : Un) (a : Ac) : Un := { u with
  recs := (u.recs ++ List.replicate (a.number.toNat - u.recs.length) []).set (a.number - 1).toNat (padS u.width a.bytes),
  there := (u.there ++ List.replicate (a.number.toNat - u.there.length) false).set (a.number - 1).toNat true }
def dirD (u : Un) (a : Ac) : Un × An :=
  if ¬ a.kind = 0 ∧ ¬ a.kind = 1 then (u, stA 2)
  else if ¬ (1 ≤ a.number ∧ a.number ≤ 60) then (u, stA 4)
  else if a.kind = 0 then if (u.recs.length : Int) < a.number ∨ u.there.getD (a.number - 1).toNat default = false then (u, stA 3) else (u, ⟨0, (u.recs[(a.number - 1).toNat]?).getD [], 0⟩)
  else if u.width < (a.bytes.length : Int) then (u, stA 5)
  else (setR u a, stA 0)
theorem doneD (u : Un) (a : Ac) (hac : u.access = 1) (hn : u.there.length = u.recs.length) (hk0 : 0 ≤ a.kind) (hk5 : a.kind ≤ 5) : doneF u a = dirD u a := by
  have hks : a.kind = 0 ∨ a.kind = 1 ∨ a.kind = 2 ∨ a.kind = 3 ∨ a.kind = 4 ∨ a.kind = 5 := by omega
  rcases hks with k | k | k | k | k | k
  · have e1 : doneF u a = dirF u a := by simp [doneF, permF, hac, k]
    have e2 : dirD u a = if ¬ (1 ≤ a.number ∧ a.number ≤ 60) then (u, stA 4) else if (u.recs.length : Int) < a.number ∨ u.there.getD (a.number - 1).toNat default = false then (u, stA 3) else (u, ⟨0, (u.recs[(a.number - 1).toNat]?).getD [], 0⟩) := by simp only [dirD, k]; rfl
    rw [e1, e2, dirF, btw_dec]
    simp only [decide_eq_true_eq, k, if_true]
    by_cases hb : 1 ≤ a.number ∧ a.number ≤ 60
    · rw [if_pos hb, if_neg (show ¬ ¬ (1 ≤ a.number ∧ a.number ≤ 60) from fun h => h hb)]
      by_cases hl : (u.recs.length : Int) ≤ a.number - 1
      · rw [if_pos hl, if_pos (.inl (by omega))]
      · have h1 : (a.number - 1).toNat < u.there.length := by omega
        have h2 : ¬ (u.recs.length : Int) < a.number := by omega
        rw [if_neg hl, List.getD_eq_getElem?_getD, List.getElem?_eq_getElem h1]
        cases u.there[(a.number - 1).toNat] with
        | true => simp [h2]
        | false => simp
    · rw [if_neg hb, if_pos hb]
  · have e1 : doneF u a = dirF u a := by simp [doneF, permF, hac, k]
    have e2 : dirD u a = if ¬ (1 ≤ a.number ∧ a.number ≤ 60) then (u, stA 4) else if u.width < (a.bytes.length : Int) then (u, stA 5) else (setR u a, stA 0) := by simp only [dirD, k]; rfl
    rw [e1, e2, dirF, btw_dec]
    simp only [decide_eq_true_eq, k]
    by_cases hb : 1 ≤ a.number ∧ a.number ≤ 60
    · rw [if_pos hb, if_neg (show ¬ ¬ (1 ≤ a.number ∧ a.number ≤ 60) from fun h => h hb), if_neg (show ¬ (1 : Int) = 0 by decide)]; rfl
    · rw [if_neg hb, if_pos hb]
  all_goals simp [doneF, permF, dirD, hac, k]
def DirG (u : Un) (a : Ac) (K : PV → Hp → Prop) : Prop :=
  ∀ v1 v2 H', OwnL H' v1 ((dirD u a).1.recs.map encS) → OwnL H' v2 ((dirD u a).1.there.map encB) → K (.tup [encO (dirD u a).1 v1 v2, encAn (dirD u a).2]) H'
attribute [local go_sem] encS encB List.length_append List.length_replicate in
set_option maxHeartbeats 8000000 in
theorem g74 (u : Un) (a : Ac) (hac : u.access = 1) (hn : u.there.length = u.recs.length) (hl : u.recs.length ≤ 60) (hw1 : 1 ≤ u.width) (hw2 : u.width ≤ 200) (hk0 : 0 ≤ a.kind) (hk5 : a.kind ≤ 5) (hbl : a.bytes.length ≤ 4000)
    (l1 l2 : Lab) (H : Hp) (hl1 : H l1 = some (.row true 1 (u.recs.map encS))) (hl2 : H l2 = some (.row true 1 (u.there.map encB))) (hne : l2 ≠ l1) {K : PV → Hp → Prop} (hK : DirG u a K) :
    CallsG Try.prog 74 [encO u (.arr l1 1 0 u.recs.length) (.arr l2 1 0 u.there.length), encAc a] H K := by
  have hne1 : (l1 = l2) = False := eq_false (fun e => hne e.symm)
  have hne2 : (l2 = l1) = False := eq_false hne
  unfold DirG at hK
  simp only [encO, encAc]
  (refine callsG_of_T ok74 (by simp only [List.length_cons, List.length_nil]; decide) ?_; refine t_seq ?_)
  have hNE := True.intro; have hC := True.intro; have hA := True.intro; have hP := True.intro
  (replace hA := And.intro hl1 (And.intro hl2 (And.intro hne1 (And.intro hne2 (hn)))); replace hP := And.intro @p72' (And.intro @p53d (True.intro)); repeat' first | ((with_reducible apply gt_call); first | refine ce_callS ?_ | refine ce_callO ?_) | ((with_reducible apply gt_alloc); (refine ce_alloc ?_; intro la ha hn1; replace hNE := And.intro hNE hn1)) | ((with_reducible apply gt_box); (refine ce_boxL ?_; intro la ha hn1; replace hNE := And.intro hNE hn1)) | ((with_reducible apply gt_g); first | refine ce_gval ?_ | refine ce_gno ?_ | refine ce_gskip ?_ | refine ce_gval2 ?_ | refine ce_gno2 ?_) | ((with_reducible apply gd_call); first | refine de_callS ?_ | refine de_callO ?_) | ((with_reducible apply gd_store); first | refine de_store ?_ | refine de_storeZ ?_) | ((with_reducible refine gd_appT app_22 ?_); first | (refine de_appendU app_22 c_9 ?_; intro la ha hn1; replace hNE := And.intro hNE hn1) | refine de_append app_22 c_9 ?_ ?_ | (refine de_appendL app_22 c_9 ?_; intro la ha hn1; replace hNE := And.intro hNE hn1) | (refine de_appendB app_22 c_9 ?_; intro la ha hn1; replace hNE := And.intro hNE hn1)) | ((with_reducible refine gd_appT app_23 ?_); first | (refine de_appendU app_23 c_4 ?_; intro la ha hn1; replace hNE := And.intro hNE hn1) | refine de_append app_23 c_4 ?_ ?_ | (refine de_appendL app_23 c_4 ?_; intro la ha hn1; replace hNE := And.intro hNE hn1) | (refine de_appendB app_23 c_4 ?_; intro la ha hn1; replace hNE := And.intro hNE hn1)) | ((with_reducible apply gt_cond); first | refine c_cond ?_ ?_ | refine c_condB ?_ ?_) | ((with_reducible apply gt_any); refine ce_val ?_) | ((with_reducible apply gd_any); refine de_val ?_) | ((with_reducible apply gt_drw); first | refine ce_drwA ?_ | refine ce_drwE ?_ | refine ce_drwK ?_ | refine ce_drwZ ?_) | with_reducible first | apply k_seq | apply t_seq | apply t_reg | apply t_nil | apply t_skip | apply t_ret | apply t_exit | apply k_seq_exit | apply k_seq_ret | apply k_blk_exit | refine k_blk_other (by decide) ?_ | apply k_blk_ret | apply k_blk | apply t_block | apply m_nil | (with_reducible intro hc; with_reducible exact Bool.noConfusion hc) | (with_reducible intro hc; replace hC := And.intro hC hc))
  any_goals
    (apply gendH rs74
     · (exact ev_eq)
     · refine hK (.arr l1 1 0 u.recs.length) (.arr l2 1 0 u.there.length) _ ?_ ?_
       · refine .inr ⟨l1, [], ?_, ?_⟩
         · ((try simp only [dirD]) <;> exact fin_eq)
         · ((try simp only [dirD, List.append_nil]) <;> exact sm_eq)
       · refine .inr ⟨l2, [], ?_, ?_⟩
         · ((try simp only [dirD]) <;> exact fin_eq)
         · ((try simp only [dirD, List.append_nil]) <;> exact sm_eq)
     · ((try simp only [dirD, encO, encAn, stA, Option.getD_some]) <;> exact fin_eq))
  rename_i lu au nu lx ax nx l4 a4 n4 c1 c2 c3
  have c4 := hc
  obtain ⟨l5, h5⟩ : ∃ l, l = la := ⟨la, rfl⟩
  subst h5
  obtain ⟨N, hN⟩ : ∃ N : Nat, a.number = (N : Int) := ⟨a.number.toNat, by omega⟩
  refine t_loopX (fun (k0 : Nat) (E0 : Nat → PV) (H0 : Hp) => ∃ (m : Nat) (r1 : Lab) (r2 : Lab), m + k0 = N - u.recs.length ∧ ((lu = lx) = False ∧ (lx = lu) = False ∧ (lu = l4) = False ∧ (l4 = lu) = False ∧ (lx = l4) = False ∧ (l4 = lx) = False ∧ (lu = l5) = False ∧ (l5 = lu) = False ∧ (lx = l5) = False ∧ (l5 = lx) = False ∧ (l4 = l5) = False ∧ (l5 = l4) = False ∧ (lu = r1) = False ∧ (r1 = lu) = False ∧ (lx = r1) = False ∧ (r1 = lx) = False ∧ (l4 = r1) = False ∧ (r1 = l4) = False ∧ (l5 = r1) = False ∧ (r1 = l5) = False ∧ (lu = r2) = False ∧ (r2 = lu) = False ∧ (lx = r2) = False ∧ (r2 = lx) = False ∧ (l4 = r2) = False ∧ (r2 = l4) = False ∧ (l5 = r2) = False ∧ (r2 = l5) = False ∧ (r1 = r2) = False ∧ (r2 = r1) = False) ∧ H0 = hp [(lu, .row true 7 ([.agg [.int .i64 u.access, .int .i64 u.width, .arr r1 1 0 (u.recs.length + m), .arr r2 1 0 (u.recs.length + m), .str u.bytes, .bool u.ended, .int .i64 u.pos]])), (lx, .row true 3 ([.agg [.int .i64 a.kind, .int .i64 a.number, .str a.bytes]])), (l4, .row true 7 ([zU])), (l5, .row true 3 ([.agg [.int .i64 0, .str [], .int .i64 0]])), (r1, .row true 1 ((u.recs ++ List.replicate m []).map encS)), (r2, .row true 1 ((u.there ++ List.replicate m false).map encB))]) (N - u.recs.length) ?_ ?_
  intro Ng
  replace hA := And.intro hA (And.intro hl1 (And.intro hl2 (And.intro hne1 (And.intro hne2 (hn)))))
  refine ⟨_, _, wkE_id, (by repeat' first | exact rowsok_nil | refine rowsok_cons ?_ ?_ | exact rowok_ghost (by assumption) | exact rowA | ((try simp only [zU, List.replicate_zero, List.append_nil]) <;> exact rowA)), 0, l1, l2, (by first | omega | rfl | assumption | (first | exact lv_eq | ((try simp only [zU, List.replicate_zero, List.append_nil]) <;> exact lv_eq) | (simp (maxDischargeDepth := 8) only [go_sem, hNE, hA, zU, List.replicate_zero, List.append_nil, List.length_append, List.length_cons, List.length_nil, Nat.zero_add]; first | done | rfl))), (by (repeat' apply And.intro) <;> exact lv_eq), rfl⟩
  rintro k0 E0 H0 hfr0 ⟨m, r1, r2, hm, ⟨d0_0, d0_1, d0_2, d0_3, d0_4, d0_5, d0_6, d0_7, d0_8, d0_9, d0_10, d0_11, d0_12, d0_13, d0_14, d0_15, d0_16, d0_17, d0_18, d0_19, d0_20, d0_21, d0_22, d0_23, d0_24, d0_25, d0_26, d0_27, d0_28, d0_29⟩, rfl⟩
  have e0_2 := hfr0 2 rfl; have e0_3 := hfr0 3 rfl; have e0_4 := hfr0 4 rfl; have e0_5 := hfr0 5 rfl
  simp (maxDischargeDepth := 8) only [go_sem, hl1, hl2, hne1, hne2, hn, zU, List.replicate_zero, List.append_nil, hNE] at e0_2 e0_3 e0_4 e0_5
  clear hfr0
  have d0 := And.intro d0_0 (And.intro d0_1 (And.intro d0_2 (And.intro d0_3 (And.intro d0_4 (And.intro d0_5 (And.intro d0_6 (And.intro d0_7 (And.intro d0_8 (And.intro d0_9 (And.intro d0_10 (And.intro d0_11 (And.intro d0_12 (And.intro d0_13 (And.intro d0_14 (And.intro d0_15 (And.intro d0_16 (And.intro d0_17 (And.intro d0_18 (And.intro d0_19 (And.intro d0_20 (And.intro d0_21 (And.intro d0_22 (And.intro d0_23 (And.intro d0_24 (And.intro d0_25 (And.intro d0_26 (And.intro d0_27 (And.intro d0_28 (d0_29)))))))))))))))))))))))))))))
  simp only [zU]
  by_cases hi : u.recs.length + m < N
  · have t1 : List.take (u.recs.length + m) ((u.recs ++ List.replicate m []).map encS) = (u.recs ++ List.replicate m []).map encS := List.take_of_length_le (by simp)
    have t2 : List.take (u.recs.length + m) ((u.there ++ List.replicate m false).map encB) = (u.there ++ List.replicate m false).map encB := List.take_of_length_le (by simp [hn])
    have e1 : (u.recs ++ List.replicate (m + 1) []).map encS = (u.recs ++ List.replicate m []).map encS ++ [.str []] := by rw [List.replicate_succ', ← List.append_assoc, List.map_append]; rfl
    have e2 : (u.there ++ List.replicate (m + 1) false).map encB = (u.there ++ List.replicate m false).map encB ++ [.bool false] := by rw [List.replicate_succ', ← List.append_assoc, List.map_append]; rfl
    (replace hA := And.intro e0_2 (And.intro e0_3 (And.intro e0_4 (And.intro e0_5 (And.intro d0 (hn))))); replace hP := True.intro; repeat' first | ((with_reducible apply gt_call); first | refine ce_callS ?_ | refine ce_callO ?_) | ((with_reducible apply gt_alloc); (refine ce_alloc ?_; intro la ha hn1; replace hNE := And.intro hNE hn1)) | ((with_reducible apply gt_box); (refine ce_boxL ?_; intro la ha hn1; replace hNE := And.intro hNE hn1)) | ((with_reducible apply gt_g); first | refine ce_gval ?_ | refine ce_gno ?_ | refine ce_gskip ?_ | refine ce_gval2 ?_ | refine ce_gno2 ?_) | ((with_reducible apply gd_call); first | refine de_callS ?_ | refine de_callO ?_) | ((with_reducible apply gd_store); first | refine de_store ?_ | refine de_storeZ ?_) | ((with_reducible refine gd_appT app_22 ?_); first | (refine de_appendQ app_22 c_9 ?_; intro la ha; have hn1 := or_ne ha; replace hNE := And.intro hNE hn1) | (refine de_appendU app_22 c_9 ?_; intro la ha hn1; replace hNE := And.intro hNE hn1) | refine de_append app_22 c_9 ?_ ?_ | (refine de_appendL app_22 c_9 ?_; intro la ha hn1; replace hNE := And.intro hNE hn1) | (refine de_appendB app_22 c_9 ?_; intro la ha hn1; replace hNE := And.intro hNE hn1)) | ((with_reducible refine gd_appT app_23 ?_); first | (refine de_appendQ app_23 c_4 ?_; intro la ha; have hn1 := or_ne ha; replace hNE := And.intro hNE hn1) | (refine de_appendU app_23 c_4 ?_; intro la ha hn1; replace hNE := And.intro hNE hn1) | refine de_append app_23 c_4 ?_ ?_ | (refine de_appendL app_23 c_4 ?_; intro la ha hn1; replace hNE := And.intro hNE hn1) | (refine de_appendB app_23 c_4 ?_; intro la ha hn1; replace hNE := And.intro hNE hn1)) | ((with_reducible apply gt_cond); first | refine c_cond ?_ ?_ | refine c_condB ?_ ?_) | ((with_reducible apply gt_any); refine ce_val ?_) | ((with_reducible apply gd_any); refine de_val ?_) | ((with_reducible apply gt_drw); first | refine ce_drwH r1 r2 ?_ | refine ce_drwA ?_ | refine ce_drwE ?_ | refine ce_drwK ?_ | refine ce_drwZ ?_) | with_reducible first | apply k_seq | apply t_seq | apply t_reg | apply t_nil | apply t_skip | apply t_ret | apply t_exit | apply k_seq_exit | apply k_seq_ret | apply k_blk_exit | refine k_blk_other (by decide) ?_ | apply k_blk_ret | apply k_blk | apply k_invX_ret | apply k_invX_exit | apply t_block | apply m_nil | (with_reducible intro hc; with_reducible exact Bool.noConfusion hc) | (with_reducible intro hc; replace hC := And.intro hC hc))
    rename_i r1n _ _
    refine k_invX (k0 - 1) (by omega) ?_
    intro Ng
    replace hA := And.intro hA (And.intro e0_2 (And.intro e0_3 (And.intro e0_4 (And.intro e0_5 (And.intro d0 (And.intro t1 (And.intro t2 (And.intro e1 (e2)))))))))
    refine ⟨_, _, wkE_id, (by repeat' first | exact rowsok_nil | refine rowsok_cons ?_ ?_ | exact rowok_ghost (by assumption) | exact rowA | ((try simp only [Nat.add_assoc, zU]) <;> exact rowA)), m + 1, r1n, la, (by first | omega | (simp only [List.length_append, List.length_cons, List.length_nil, List.length_drop, List.length_take, List.length_map]; omega)), (by (repeat' apply And.intro) <;> exact lv_eq), rfl⟩
  · have hme : m = N - u.recs.length := by omega
    obtain ⟨Wp, hWp⟩ : ∃ Wp, (u.width - (a.bytes.length : Int)).toNat = Wp := ⟨_, rfl⟩
    (replace hA := And.intro e0_2 (And.intro e0_3 (And.intro e0_4 (And.intro e0_5 (And.intro d0 (hn))))); replace hP := True.intro; repeat' first | ((with_reducible apply gt_call); first | refine ce_callS ?_ | refine ce_callO ?_) | ((with_reducible apply gt_alloc); (refine ce_alloc ?_; intro la ha hn1; replace hNE := And.intro hNE hn1)) | ((with_reducible apply gt_box); (refine ce_boxL ?_; intro la ha hn1; replace hNE := And.intro hNE hn1)) | ((with_reducible apply gt_g); first | refine ce_gval ?_ | refine ce_gno ?_ | refine ce_gskip ?_ | refine ce_gval2 ?_ | refine ce_gno2 ?_) | ((with_reducible apply gd_call); first | refine de_callS ?_ | refine de_callO ?_) | ((with_reducible apply gd_store); first | refine de_store ?_ | refine de_storeZ ?_) | ((with_reducible refine gd_appT app_22 ?_); first | (refine de_appendU app_22 c_9 ?_; intro la ha hn1; replace hNE := And.intro hNE hn1) | refine de_append app_22 c_9 ?_ ?_ | (refine de_appendL app_22 c_9 ?_; intro la ha hn1; replace hNE := And.intro hNE hn1) | (refine de_appendB app_22 c_9 ?_; intro la ha hn1; replace hNE := And.intro hNE hn1)) | ((with_reducible refine gd_appT app_23 ?_); first | (refine de_appendU app_23 c_4 ?_; intro la ha hn1; replace hNE := And.intro hNE hn1) | refine de_append app_23 c_4 ?_ ?_ | (refine de_appendL app_23 c_4 ?_; intro la ha hn1; replace hNE := And.intro hNE hn1) | (refine de_appendB app_23 c_4 ?_; intro la ha hn1; replace hNE := And.intro hNE hn1)) | ((with_reducible apply gt_cond); first | refine c_cond ?_ ?_ | refine c_condB ?_ ?_) | ((with_reducible apply gt_any); refine ce_val ?_) | ((with_reducible apply gd_any); refine de_val ?_) | ((with_reducible apply gt_drw); first | refine ce_drwA ?_ | refine ce_drwE ?_ | refine ce_drwK ?_ | refine ce_drwZ ?_) | with_reducible first | apply k_seq | apply t_seq | apply t_reg | apply t_nil | apply t_skip | apply t_ret | apply t_exit | apply k_seq_exit | apply k_seq_ret | apply k_blk_exit | refine k_blk_other (by decide) ?_ | apply k_blk_ret | apply k_blk | apply k_invX_ret | apply k_invX_exit | apply t_block | apply m_nil | (with_reducible intro hc; with_reducible exact Bool.noConfusion hc) | (with_reducible intro hc; replace hC := And.intro hC hc))
    refine t_loopX (fun (k2 : Nat) (E2 : Nat → PV) (H2 : Hp) => ∃ (j : Nat), j + k2 = Wp ∧ ((lu = lx) = False ∧ (lx = lu) = False ∧ (lu = l4) = False ∧ (l4 = lu) = False ∧ (lx = l4) = False ∧ (l4 = lx) = False ∧ (lu = l5) = False ∧ (l5 = lu) = False ∧ (lx = l5) = False ∧ (l5 = lx) = False ∧ (l4 = l5) = False ∧ (l5 = l4) = False ∧ (lu = r1) = False ∧ (r1 = lu) = False ∧ (lx = r1) = False ∧ (r1 = lx) = False ∧ (l4 = r1) = False ∧ (r1 = l4) = False ∧ (l5 = r1) = False ∧ (r1 = l5) = False ∧ (lu = r2) = False ∧ (r2 = lu) = False ∧ (lx = r2) = False ∧ (r2 = lx) = False ∧ (l4 = r2) = False ∧ (r2 = l4) = False ∧ (l5 = r2) = False ∧ (r2 = l5) = False ∧ (r1 = r2) = False ∧ (r2 = r1) = False) ∧ (E2 6 = .str (a.bytes ++ List.replicate j 32)) ∧ H2 = hp [(lu, .row true 7 ([.agg [.int .i64 u.access, .int .i64 u.width, .arr r1 1 0 (u.recs.length + m), .arr r2 1 0 (u.recs.length + m), .str u.bytes, .bool u.ended, .int .i64 u.pos]])), (lx, .row true 3 ([.agg [.int .i64 a.kind, .int .i64 a.number, .str a.bytes]])), (l4, .row true 7 ([zU])), (l5, .row true 3 ([.agg [.int .i64 0, .str [], .int .i64 0]])), (r1, .row true 1 ((u.recs ++ List.replicate m []).map encS)), (r2, .row true 1 ((u.there ++ List.replicate m false).map encB))]) (Wp) ?_ ?_
    intro Ng
    replace hA := And.intro hA (And.intro e0_2 (And.intro e0_3 (And.intro e0_4 (And.intro e0_5 (And.intro d0 (hn))))))
    refine ⟨_, _, wkE_id, (by repeat' first | exact rowsok_nil | refine rowsok_cons ?_ ?_ | exact rowok_ghost (by assumption) | exact rowA | ((try simp only [zU, List.replicate_zero, List.append_nil]) <;> exact rowA)), 0, (by first | omega | rfl | assumption | (first | exact lv_eq | ((try simp only [zU, List.replicate_zero, List.append_nil]) <;> exact lv_eq) | (simp (maxDischargeDepth := 8) only [go_sem, hNE, hA, zU, List.replicate_zero, List.append_nil, List.length_append, List.length_cons, List.length_nil, Nat.zero_add]; first | done | rfl))), (by (repeat' apply And.intro) <;> exact lv_eq), (by (repeat' apply And.intro) <;> first | exact lv_eq | ((try simp only [zU, List.replicate_zero, List.append_nil]) <;> exact lv_eq) | (simp (maxDischargeDepth := 8) only [go_sem, hNE, hA, zU, List.replicate_zero, List.append_nil, List.length_append, List.length_cons, List.length_nil, Nat.zero_add]; first | done | rfl)), rfl⟩
    rintro k2 E2 H2 hfr2 ⟨j, hj, ⟨d2_0, d2_1, d2_2, d2_3, d2_4, d2_5, d2_6, d2_7, d2_8, d2_9, d2_10, d2_11, d2_12, d2_13, d2_14, d2_15, d2_16, d2_17, d2_18, d2_19, d2_20, d2_21, d2_22, d2_23, d2_24, d2_25, d2_26, d2_27, d2_28, d2_29⟩, h2_6, rfl⟩
    have e2_2 := hfr2 2 rfl; have e2_3 := hfr2 3 rfl; have e2_4 := hfr2 4 rfl; have e2_5 := hfr2 5 rfl
    simp (maxDischargeDepth := 8) only [go_sem, e0_2, e0_3, e0_4, e0_5, d0, hn, zU, List.replicate_zero, List.append_nil, hNE] at e2_2 e2_3 e2_4 e2_5
    clear hfr2
    have d2 := And.intro d2_0 (And.intro d2_1 (And.intro d2_2 (And.intro d2_3 (And.intro d2_4 (And.intro d2_5 (And.intro d2_6 (And.intro d2_7 (And.intro d2_8 (And.intro d2_9 (And.intro d2_10 (And.intro d2_11 (And.intro d2_12 (And.intro d2_13 (And.intro d2_14 (And.intro d2_15 (And.intro d2_16 (And.intro d2_17 (And.intro d2_18 (And.intro d2_19 (And.intro d2_20 (And.intro d2_21 (And.intro d2_22 (And.intro d2_23 (And.intro d2_24 (And.intro d2_25 (And.intro d2_26 (And.intro d2_27 (And.intro d2_28 (d2_29)))))))))))))))))))))))))))))
    simp only [zU]
    by_cases hj2 : j < Wp
    · (replace hA := And.intro e0_2 (And.intro e0_3 (And.intro e0_4 (And.intro e0_5 (And.intro d0 (And.intro e2_2 (And.intro e2_3 (And.intro e2_4 (And.intro e2_5 (And.intro h2_6 (And.intro d2 (hn))))))))))); replace hP := True.intro; repeat' first | ((with_reducible apply gt_call); first | refine ce_callS ?_ | refine ce_callO ?_) | ((with_reducible apply gt_alloc); (refine ce_alloc ?_; intro la ha hn1; replace hNE := And.intro hNE hn1)) | ((with_reducible apply gt_box); (refine ce_boxL ?_; intro la ha hn1; replace hNE := And.intro hNE hn1)) | ((with_reducible apply gt_g); first | refine ce_gval ?_ | refine ce_gno ?_ | refine ce_gskip ?_ | refine ce_gval2 ?_ | refine ce_gno2 ?_) | ((with_reducible apply gd_call); first | refine de_callS ?_ | refine de_callO ?_) | ((with_reducible apply gd_store); first | refine de_store ?_ | refine de_storeZ ?_) | ((with_reducible refine gd_appT app_22 ?_); first | (refine de_appendU app_22 c_9 ?_; intro la ha hn1; replace hNE := And.intro hNE hn1) | refine de_append app_22 c_9 ?_ ?_ | (refine de_appendL app_22 c_9 ?_; intro la ha hn1; replace hNE := And.intro hNE hn1) | (refine de_appendB app_22 c_9 ?_; intro la ha hn1; replace hNE := And.intro hNE hn1)) | ((with_reducible refine gd_appT app_23 ?_); first | (refine de_appendU app_23 c_4 ?_; intro la ha hn1; replace hNE := And.intro hNE hn1) | refine de_append app_23 c_4 ?_ ?_ | (refine de_appendL app_23 c_4 ?_; intro la ha hn1; replace hNE := And.intro hNE hn1) | (refine de_appendB app_23 c_4 ?_; intro la ha hn1; replace hNE := And.intro hNE hn1)) | ((with_reducible apply gt_cond); first | refine c_cond ?_ ?_ | refine c_condB ?_ ?_) | ((with_reducible apply gt_any); refine ce_val ?_) | ((with_reducible apply gd_any); refine de_val ?_) | ((with_reducible apply gt_drw); first | refine ce_drwA ?_ | refine ce_drwE ?_ | refine ce_drwK ?_ | refine ce_drwZ ?_) | with_reducible first | apply k_seq | apply t_seq | apply t_reg | apply t_nil | apply t_skip | apply t_ret | apply t_exit | apply k_seq_exit | apply k_seq_ret | apply k_blk_exit | refine k_blk_other (by decide) ?_ | apply k_blk_ret | apply k_blk | apply k_invX_ret | apply k_invX_exit | apply t_block | apply m_nil | (with_reducible intro hc; with_reducible exact Bool.noConfusion hc) | (with_reducible intro hc; replace hC := And.intro hC hc))
      refine k_invX (k2 - 1) (by omega) ?_
      intro Ng
      replace hA := And.intro hA (And.intro e0_2 (And.intro e0_3 (And.intro e0_4 (And.intro e0_5 (And.intro d0 (And.intro e2_2 (And.intro e2_3 (And.intro e2_4 (And.intro e2_5 (And.intro h2_6 (d2)))))))))))
      refine ⟨_, _, wkE_id, (by repeat' first | exact rowsok_nil | refine rowsok_cons ?_ ?_ | exact rowok_ghost (by assumption) | exact rowA | ((try simp only [List.replicate_succ', List.append_assoc, zU]) <;> exact rowA)), j + 1, (by first | omega | (simp only [List.length_append, List.length_cons, List.length_nil, List.length_drop, List.length_take, List.length_map]; omega)), (by (repeat' apply And.intro) <;> exact lv_eq), (by (repeat' apply And.intro) <;> first | exact lv_eq | ((try simp only [List.replicate_succ', List.append_assoc, zU]) <;> exact lv_eq) | (simp (maxDischargeDepth := 8) only [go_sem, hNE, hA, List.replicate_succ', List.append_assoc, zU, List.length_append, List.length_cons, List.length_nil, Nat.zero_add]; first | done | rfl)), rfl⟩
    · have hje : j = Wp := by omega
      (replace hA := And.intro e0_2 (And.intro e0_3 (And.intro e0_4 (And.intro e0_5 (And.intro d0 (And.intro e2_2 (And.intro e2_3 (And.intro e2_4 (And.intro e2_5 (And.intro h2_6 (And.intro d2 (hn))))))))))); replace hP := And.intro @p72' (True.intro); repeat' first | ((with_reducible apply gt_call); first | refine ce_callS ?_ | refine ce_callO ?_) | ((with_reducible apply gt_alloc); (refine ce_alloc ?_; intro la ha hn1; replace hNE := And.intro hNE hn1)) | ((with_reducible apply gt_box); (refine ce_boxL ?_; intro la ha hn1; replace hNE := And.intro hNE hn1)) | ((with_reducible apply gt_g); first | refine ce_gval ?_ | refine ce_gno ?_ | refine ce_gskip ?_ | refine ce_gval2 ?_ | refine ce_gno2 ?_) | ((with_reducible apply gd_call); first | refine de_callS ?_ | refine de_callO ?_) | ((with_reducible apply gd_store); first | refine de_store ?_ | refine de_storeZ ?_) | ((with_reducible refine gd_appT app_22 ?_); first | (refine de_appendU app_22 c_9 ?_; intro la ha hn1; replace hNE := And.intro hNE hn1) | refine de_append app_22 c_9 ?_ ?_ | (refine de_appendL app_22 c_9 ?_; intro la ha hn1; replace hNE := And.intro hNE hn1) | (refine de_appendB app_22 c_9 ?_; intro la ha hn1; replace hNE := And.intro hNE hn1)) | ((with_reducible refine gd_appT app_23 ?_); first | (refine de_appendU app_23 c_4 ?_; intro la ha hn1; replace hNE := And.intro hNE hn1) | refine de_append app_23 c_4 ?_ ?_ | (refine de_appendL app_23 c_4 ?_; intro la ha hn1; replace hNE := And.intro hNE hn1) | (refine de_appendB app_23 c_4 ?_; intro la ha hn1; replace hNE := And.intro hNE hn1)) | ((with_reducible apply gt_cond); first | refine c_cond ?_ ?_ | refine c_condB ?_ ?_) | ((with_reducible apply gt_any); refine ce_val ?_) | ((with_reducible apply gd_any); refine de_val ?_) | ((with_reducible apply gt_drw); first | refine ce_drwA ?_ | refine ce_drwE ?_ | refine ce_drwL [r1, r2] ?_ | refine ce_drwK ?_ | refine ce_drwZ ?_) | with_reducible first | apply k_seq | apply t_seq | apply t_reg | apply t_nil | apply t_skip | apply t_ret | apply t_exit | apply k_seq_exit | apply k_seq_ret | apply k_blk_exit | refine k_blk_other (by decide) ?_ | apply k_blk_ret | apply k_blk | apply k_invX_ret | apply k_invX_exit | apply t_block | apply m_nil | (with_reducible intro hc; with_reducible exact Bool.noConfusion hc) | (with_reducible intro hc; replace hC := And.intro hC hc))
      have hz : dirD u a = (setR u a, stA 0) := by
        rw [dirD, if_neg c1, if_neg c2, if_neg c3, if_neg c4]
      rw [hz] at hK
      have z1 : a.bytes ++ List.replicate j 32 = padS u.width a.bytes := by rw [padS, hWp, hje]
      have z0 : a.number.toNat - u.recs.length = m := by omega
      have z2 : (setR u a).recs.map encS = ((u.recs ++ List.replicate m []).map encS).set (a.number - 1).toNat (.str (a.bytes ++ List.replicate j 32)) := by
        rw [z1]; simp only [setR, z0, List.map_set, encS]
      have z3 : (setR u a).there.map encB = ((u.there ++ List.replicate m false).map encB).set (a.number - 1).toNat (.bool true) := by
        simp only [setR, hn, z0, List.map_set, encB]
      apply gendH rs74
      · (exact ev_eq)
      · refine hK (.arr r1 1 0 (u.recs.length + m)) (.arr r2 1 0 (u.recs.length + m)) _ ?_ ?_
        · refine .inr ⟨r1, [], ?_, ?_⟩
          · rw [z2]; simp
          · rw [z2]; ((try simp only [List.append_nil]) <;> exact sm_eq)
        · refine .inr ⟨r2, [], ?_, ?_⟩
          · rw [z3]; simp [hn]
          · rw [z3]; ((try simp only [List.append_nil]) <;> exact sm_eq)
      · ((try simp only [setR, encO, encAn, stA]) <;> exact fin_eq)
end Go.Proofs.Ythdgdngdfijfhaa
namespace Go.Proofs.Ythdgdngdfijfhaa
open Go.RowKit Go.Proofs
set_option linter.unusedVariables false
set_option linter.unusedSimpArgs false
attribute [local irreducible] PPure CallN Tops TopsDm T
attribute [local go_sem] encS encB List.length_append List.length_replicate in
set_option maxHeartbeats 8000000 in
theorem g74e (u : Un) (a : Ac) (hac : u.access = 1) (hr : u.recs = []) (ht : u.there = []) (hw1 : 1 ≤ u.width) (hw2 : u.width ≤ 200) (hk0 : 0 ≤ a.kind) (hk5 : a.kind ≤ 5) (hbl : a.bytes.length ≤ 4000)
    (l1 : Lab) (H : Hp) (hl1 : H l1 = some (.row true 1 [])) {K : PV → Hp → Prop} (hK : DirG u a K) :
    CallsG Try.prog 74 [encO u (.arr l1 1 0 0) (.list .full []), encAc a] H K := by
  have hr0 : u.recs.length = 0 := by rw [hr]; rfl
  unfold DirG at hK
  simp only [encO, encAc]
  (refine callsG_of_T ok74 (by simp only [List.length_cons, List.length_nil]; decide) ?_; refine t_seq ?_)
  have hNE := True.intro; have hC := True.intro; have hA := True.intro; have hP := True.intro
  (replace hA := hl1; replace hP := And.intro @p72' (And.intro @p53d (True.intro)); repeat' first | ((with_reducible apply gt_call); first | refine ce_callS ?_ | refine ce_callO ?_) | ((with_reducible apply gt_alloc); (refine ce_alloc ?_; intro la ha hn1; replace hNE := And.intro hNE hn1)) | ((with_reducible apply gt_box); (refine ce_boxL ?_; intro la ha hn1; replace hNE := And.intro hNE hn1)) | ((with_reducible apply gt_g); first | refine ce_gval ?_ | refine ce_gno ?_ | refine ce_gskip ?_ | refine ce_gval2 ?_ | refine ce_gno2 ?_) | ((with_reducible apply gd_call); first | refine de_callS ?_ | refine de_callO ?_) | ((with_reducible apply gd_store); first | refine de_store ?_ | refine de_storeZ ?_) | ((with_reducible refine gd_appT app_22 ?_); first | (refine de_appendU app_22 c_9 ?_; intro la ha hn1; replace hNE := And.intro hNE hn1) | refine de_append app_22 c_9 ?_ ?_ | (refine de_appendL app_22 c_9 ?_; intro la ha hn1; replace hNE := And.intro hNE hn1) | (refine de_appendB app_22 c_9 ?_; intro la ha hn1; replace hNE := And.intro hNE hn1)) | ((with_reducible refine gd_appT app_23 ?_); first | (refine de_appendU app_23 c_4 ?_; intro la ha hn1; replace hNE := And.intro hNE hn1) | refine de_append app_23 c_4 ?_ ?_ | (refine de_appendL app_23 c_4 ?_; intro la ha hn1; replace hNE := And.intro hNE hn1) | (refine de_appendB app_23 c_4 ?_; intro la ha hn1; replace hNE := And.intro hNE hn1)) | ((with_reducible apply gt_cond); first | refine c_cond ?_ ?_ | refine c_condB ?_ ?_) | ((with_reducible apply gt_any); refine ce_val ?_) | ((with_reducible apply gd_any); refine de_val ?_) | ((with_reducible apply gt_drw); first | refine ce_drwA ?_ | refine ce_drwE ?_ | refine ce_drwK ?_ | refine ce_drwZ ?_) | with_reducible first | apply k_seq | apply t_seq | apply t_reg | apply t_nil | apply t_skip | apply t_ret | apply t_exit | apply k_seq_exit | apply k_seq_ret | apply k_blk_exit | refine k_blk_other (by decide) ?_ | apply k_blk_ret | apply k_blk | apply t_block | apply m_nil | (with_reducible intro hc; with_reducible exact Bool.noConfusion hc) | (with_reducible intro hc; replace hC := And.intro hC hc))
  any_goals
    (apply gendH rs74
     · (exact ev_eq)
     · refine hK (.arr l1 1 0 0) (.list .full []) _ ?_ ?_
       · refine .inr ⟨l1, [], ?_, ?_⟩
         · (have hA := And.intro hA hr; (try simp only [dirD]) <;> exact fin_eq)
         · (have hA := And.intro hA hr; (try simp only [dirD, List.append_nil, List.map_nil]) <;> exact sm_eq)
       · refine .inl ⟨?_, rfl⟩
         (have hA := And.intro hA ht; (try simp only [dirD]) <;> exact fin_eq)
     · (have hA := And.intro hA (And.intro hr (hr0)); (try simp only [dirD, encO, encAn, stA]) <;> exact fin_eq))
  rename_i lu au nu lx ax nx l4 a4 n4 c1 c2 c3
  have c4 := hc
  obtain ⟨l5, h5⟩ : ∃ l, l = la := ⟨la, rfl⟩
  subst h5
  obtain ⟨N, hN⟩ : ∃ N : Nat, a.number = (N : Int) := ⟨a.number.toNat, by omega⟩
  refine t_loopX (fun (k0 : Nat) (E0 : Nat → PV) (H0 : Hp) => ∃ (m : Nat) (r1 : Lab) (r2 : Lab), m + k0 = N ∧ ((lu = lx) = False ∧ (lx = lu) = False ∧ (lu = l4) = False ∧ (l4 = lu) = False ∧ (lx = l4) = False ∧ (l4 = lx) = False ∧ (lu = l5) = False ∧ (l5 = lu) = False ∧ (lx = l5) = False ∧ (l5 = lx) = False ∧ (l4 = l5) = False ∧ (l5 = l4) = False ∧ (lu = r1) = False ∧ (r1 = lu) = False ∧ (lx = r1) = False ∧ (r1 = lx) = False ∧ (l4 = r1) = False ∧ (r1 = l4) = False ∧ (l5 = r1) = False ∧ (r1 = l5) = False ∧ (lu = r2) = False ∧ (r2 = lu) = False ∧ (lx = r2) = False ∧ (r2 = lx) = False ∧ (l4 = r2) = False ∧ (r2 = l4) = False ∧ (l5 = r2) = False ∧ (r2 = l5) = False ∧ (r1 = r2) = False ∧ (r2 = r1) = False) ∧ H0 = hp [(lu, .row true 7 ([.agg [.int .i64 u.access, .int .i64 u.width, .arr r1 1 0 m, .arr r2 1 0 m, .str u.bytes, .bool u.ended, .int .i64 u.pos]])), (lx, .row true 3 ([.agg [.int .i64 a.kind, .int .i64 a.number, .str a.bytes]])), (l4, .row true 7 ([zU])), (l5, .row true 3 ([.agg [.int .i64 0, .str [], .int .i64 0]])), (r1, .row true 1 ((List.replicate m []).map encS)), (r2, .row true 1 ((List.replicate m false).map encB))]) (N) ?_ ?_
  intro Ng
  obtain ⟨g_r2, g_r21, g_r22⟩ := ghost_new Ng [lu, lx, l4, l5, l1]
  have g_r23 := (And.intro (g_r22 lu (by simp only [List.mem_cons, List.mem_nil_iff, true_or, or_true])) (And.intro (g_r22 lx (by simp only [List.mem_cons, List.mem_nil_iff, true_or, or_true])) (And.intro (g_r22 l4 (by simp only [List.mem_cons, List.mem_nil_iff, true_or, or_true])) (And.intro (g_r22 l5 (by simp only [List.mem_cons, List.mem_nil_iff, true_or, or_true])) (g_r22 l1 (by simp only [List.mem_cons, List.mem_nil_iff, true_or, or_true]))))))
  replace hA := And.intro hA (And.intro hl1 (g_r23))
  refine ⟨_, _, wkE_id, (by repeat' first | exact rowsok_nil | refine rowsok_cons ?_ ?_ | exact rowok_ghost (by assumption) | exact rowA | ((try simp only [zU, List.replicate_zero, List.append_nil]) <;> exact rowA)), 0, l1, g_r2, (by first | omega | rfl | assumption | (first | exact lv_eq | ((try simp only [zU, List.replicate_zero, List.append_nil]) <;> exact lv_eq) | (simp (maxDischargeDepth := 8) only [go_sem, hNE, hA, zU, List.replicate_zero, List.append_nil, List.length_append, List.length_cons, List.length_nil, Nat.zero_add]; first | done | rfl))), (by (repeat' apply And.intro) <;> exact lv_eq), rfl⟩
  rintro k0 E0 H0 hfr0 ⟨m, r1, r2, hm, ⟨d0_0, d0_1, d0_2, d0_3, d0_4, d0_5, d0_6, d0_7, d0_8, d0_9, d0_10, d0_11, d0_12, d0_13, d0_14, d0_15, d0_16, d0_17, d0_18, d0_19, d0_20, d0_21, d0_22, d0_23, d0_24, d0_25, d0_26, d0_27, d0_28, d0_29⟩, rfl⟩
  have e0_2 := hfr0 2 rfl; have e0_3 := hfr0 3 rfl; have e0_4 := hfr0 4 rfl; have e0_5 := hfr0 5 rfl
  simp (maxDischargeDepth := 8) only [go_sem, hl1, zU, List.replicate_zero, List.append_nil, hNE] at e0_2 e0_3 e0_4 e0_5
  clear hfr0
  have d0 := And.intro d0_0 (And.intro d0_1 (And.intro d0_2 (And.intro d0_3 (And.intro d0_4 (And.intro d0_5 (And.intro d0_6 (And.intro d0_7 (And.intro d0_8 (And.intro d0_9 (And.intro d0_10 (And.intro d0_11 (And.intro d0_12 (And.intro d0_13 (And.intro d0_14 (And.intro d0_15 (And.intro d0_16 (And.intro d0_17 (And.intro d0_18 (And.intro d0_19 (And.intro d0_20 (And.intro d0_21 (And.intro d0_22 (And.intro d0_23 (And.intro d0_24 (And.intro d0_25 (And.intro d0_26 (And.intro d0_27 (And.intro d0_28 (d0_29)))))))))))))))))))))))))))))
  simp only [zU]
  by_cases hi : m < N
  · have t1 : List.take m ((List.replicate m []).map encS) = (List.replicate m []).map encS := List.take_of_length_le (by simp)
    have t2 : List.take m ((List.replicate m false).map encB) = (List.replicate m false).map encB := List.take_of_length_le (by simp)
    have e1 : (List.replicate (m + 1) []).map encS = (List.replicate m []).map encS ++ [.str []] := by rw [List.replicate_succ', List.map_append]; rfl
    have e2 : (List.replicate (m + 1) false).map encB = (List.replicate m false).map encB ++ [.bool false] := by rw [List.replicate_succ', List.map_append]; rfl
    (replace hA := And.intro e0_2 (And.intro e0_3 (And.intro e0_4 (And.intro e0_5 (d0)))); replace hP := True.intro; repeat' first | ((with_reducible apply gt_call); first | refine ce_callS ?_ | refine ce_callO ?_) | ((with_reducible apply gt_alloc); (refine ce_alloc ?_; intro la ha hn1; replace hNE := And.intro hNE hn1)) | ((with_reducible apply gt_box); (refine ce_boxL ?_; intro la ha hn1; replace hNE := And.intro hNE hn1)) | ((with_reducible apply gt_g); first | refine ce_gval ?_ | refine ce_gno ?_ | refine ce_gskip ?_ | refine ce_gval2 ?_ | refine ce_gno2 ?_) | ((with_reducible apply gd_call); first | refine de_callS ?_ | refine de_callO ?_) | ((with_reducible apply gd_store); first | refine de_store ?_ | refine de_storeZ ?_) | ((with_reducible refine gd_appT app_22 ?_); first | (refine de_appendQ app_22 c_9 ?_; intro la ha; have hn1 := or_ne ha; replace hNE := And.intro hNE hn1) | (refine de_appendU app_22 c_9 ?_; intro la ha hn1; replace hNE := And.intro hNE hn1) | refine de_append app_22 c_9 ?_ ?_ | (refine de_appendL app_22 c_9 ?_; intro la ha hn1; replace hNE := And.intro hNE hn1) | (refine de_appendB app_22 c_9 ?_; intro la ha hn1; replace hNE := And.intro hNE hn1)) | ((with_reducible refine gd_appT app_23 ?_); first | (refine de_appendQ app_23 c_4 ?_; intro la ha; have hn1 := or_ne ha; replace hNE := And.intro hNE hn1) | (refine de_appendU app_23 c_4 ?_; intro la ha hn1; replace hNE := And.intro hNE hn1) | refine de_append app_23 c_4 ?_ ?_ | (refine de_appendL app_23 c_4 ?_; intro la ha hn1; replace hNE := And.intro hNE hn1) | (refine de_appendB app_23 c_4 ?_; intro la ha hn1; replace hNE := And.intro hNE hn1)) | ((with_reducible apply gt_cond); first | refine c_cond ?_ ?_ | refine c_condB ?_ ?_) | ((with_reducible apply gt_any); refine ce_val ?_) | ((with_reducible apply gd_any); refine de_val ?_) | ((with_reducible apply gt_drw); first | refine ce_drwH r1 r2 ?_ | refine ce_drwA ?_ | refine ce_drwE ?_ | refine ce_drwK ?_ | refine ce_drwZ ?_) | with_reducible first | apply k_seq | apply t_seq | apply t_reg | apply t_nil | apply t_skip | apply t_ret | apply t_exit | apply k_seq_exit | apply k_seq_ret | apply k_blk_exit | refine k_blk_other (by decide) ?_ | apply k_blk_ret | apply k_blk | apply k_invX_ret | apply k_invX_exit | apply t_block | apply m_nil | (with_reducible intro hc; with_reducible exact Bool.noConfusion hc) | (with_reducible intro hc; replace hC := And.intro hC hc))
    rename_i r1n _ _
    refine k_invX (k0 - 1) (by omega) ?_
    intro Ng
    replace hA := And.intro hA (And.intro e0_2 (And.intro e0_3 (And.intro e0_4 (And.intro e0_5 (And.intro d0 (And.intro t1 (And.intro t2 (And.intro e1 (e2)))))))))
    refine ⟨_, _, wkE_id, (by repeat' first | exact rowsok_nil | refine rowsok_cons ?_ ?_ | exact rowok_ghost (by assumption) | exact rowA | ((try simp only [Nat.add_assoc, zU]) <;> exact rowA)), m + 1, r1n, la, (by first | omega | (simp only [List.length_append, List.length_cons, List.length_nil, List.length_drop, List.length_take, List.length_map]; omega)), (by (repeat' apply And.intro) <;> exact lv_eq), rfl⟩
  · have hme : m = N := by omega
    obtain ⟨Wp, hWp⟩ : ∃ Wp, (u.width - (a.bytes.length : Int)).toNat = Wp := ⟨_, rfl⟩
    (replace hA := And.intro e0_2 (And.intro e0_3 (And.intro e0_4 (And.intro e0_5 (d0)))); replace hP := True.intro; repeat' first | ((with_reducible apply gt_call); first | refine ce_callS ?_ | refine ce_callO ?_) | ((with_reducible apply gt_alloc); (refine ce_alloc ?_; intro la ha hn1; replace hNE := And.intro hNE hn1)) | ((with_reducible apply gt_box); (refine ce_boxL ?_; intro la ha hn1; replace hNE := And.intro hNE hn1)) | ((with_reducible apply gt_g); first | refine ce_gval ?_ | refine ce_gno ?_ | refine ce_gskip ?_ | refine ce_gval2 ?_ | refine ce_gno2 ?_) | ((with_reducible apply gd_call); first | refine de_callS ?_ | refine de_callO ?_) | ((with_reducible apply gd_store); first | refine de_store ?_ | refine de_storeZ ?_) | ((with_reducible refine gd_appT app_22 ?_); first | (refine de_appendU app_22 c_9 ?_; intro la ha hn1; replace hNE := And.intro hNE hn1) | refine de_append app_22 c_9 ?_ ?_ | (refine de_appendL app_22 c_9 ?_; intro la ha hn1; replace hNE := And.intro hNE hn1) | (refine de_appendB app_22 c_9 ?_; intro la ha hn1; replace hNE := And.intro hNE hn1)) | ((with_reducible refine gd_appT app_23 ?_); first | (refine de_appendU app_23 c_4 ?_; intro la ha hn1; replace hNE := And.intro hNE hn1) | refine de_append app_23 c_4 ?_ ?_ | (refine de_appendL app_23 c_4 ?_; intro la ha hn1; replace hNE := And.intro hNE hn1) | (refine de_appendB app_23 c_4 ?_; intro la ha hn1; replace hNE := And.intro hNE hn1)) | ((with_reducible apply gt_cond); first | refine c_cond ?_ ?_ | refine c_condB ?_ ?_) | ((with_reducible apply gt_any); refine ce_val ?_) | ((with_reducible apply gd_any); refine de_val ?_) | ((with_reducible apply gt_drw); first | refine ce_drwA ?_ | refine ce_drwE ?_ | refine ce_drwK ?_ | refine ce_drwZ ?_) | with_reducible first | apply k_seq | apply t_seq | apply t_reg | apply t_nil | apply t_skip | apply t_ret | apply t_exit | apply k_seq_exit | apply k_seq_ret | apply k_blk_exit | refine k_blk_other (by decide) ?_ | apply k_blk_ret | apply k_blk | apply k_invX_ret | apply k_invX_exit | apply t_block | apply m_nil | (with_reducible intro hc; with_reducible exact Bool.noConfusion hc) | (with_reducible intro hc; replace hC := And.intro hC hc))
    refine t_loopX (fun (k2 : Nat) (E2 : Nat → PV) (H2 : Hp) => ∃ (j : Nat), j + k2 = Wp ∧ ((lu = lx) = False ∧ (lx = lu) = False ∧ (lu = l4) = False ∧ (l4 = lu) = False ∧ (lx = l4) = False ∧ (l4 = lx) = False ∧ (lu = l5) = False ∧ (l5 = lu) = False ∧ (lx = l5) = False ∧ (l5 = lx) = False ∧ (l4 = l5) = False ∧ (l5 = l4) = False ∧ (lu = r1) = False ∧ (r1 = lu) = False ∧ (lx = r1) = False ∧ (r1 = lx) = False ∧ (l4 = r1) = False ∧ (r1 = l4) = False ∧ (l5 = r1) = False ∧ (r1 = l5) = False ∧ (lu = r2) = False ∧ (r2 = lu) = False ∧ (lx = r2) = False ∧ (r2 = lx) = False ∧ (l4 = r2) = False ∧ (r2 = l4) = False ∧ (l5 = r2) = False ∧ (r2 = l5) = False ∧ (r1 = r2) = False ∧ (r2 = r1) = False) ∧ (E2 6 = .str (a.bytes ++ List.replicate j 32)) ∧ H2 = hp [(lu, .row true 7 ([.agg [.int .i64 u.access, .int .i64 u.width, .arr r1 1 0 m, .arr r2 1 0 m, .str u.bytes, .bool u.ended, .int .i64 u.pos]])), (lx, .row true 3 ([.agg [.int .i64 a.kind, .int .i64 a.number, .str a.bytes]])), (l4, .row true 7 ([zU])), (l5, .row true 3 ([.agg [.int .i64 0, .str [], .int .i64 0]])), (r1, .row true 1 ((List.replicate m []).map encS)), (r2, .row true 1 ((List.replicate m false).map encB))]) (Wp) ?_ ?_
    intro Ng
    replace hA := And.intro hA (And.intro e0_2 (And.intro e0_3 (And.intro e0_4 (And.intro e0_5 (d0)))))
    refine ⟨_, _, wkE_id, (by repeat' first | exact rowsok_nil | refine rowsok_cons ?_ ?_ | exact rowok_ghost (by assumption) | exact rowA | ((try simp only [zU, List.replicate_zero, List.append_nil]) <;> exact rowA)), 0, (by first | omega | rfl | assumption | (first | exact lv_eq | ((try simp only [zU, List.replicate_zero, List.append_nil]) <;> exact lv_eq) | (simp (maxDischargeDepth := 8) only [go_sem, hNE, hA, zU, List.replicate_zero, List.append_nil, List.length_append, List.length_cons, List.length_nil, Nat.zero_add]; first | done | rfl))), (by (repeat' apply And.intro) <;> exact lv_eq), (by (repeat' apply And.intro) <;> first | exact lv_eq | ((try simp only [zU, List.replicate_zero, List.append_nil]) <;> exact lv_eq) | (simp (maxDischargeDepth := 8) only [go_sem, hNE, hA, zU, List.replicate_zero, List.append_nil, List.length_append, List.length_cons, List.length_nil, Nat.zero_add]; first | done | rfl)), rfl⟩
    rintro k2 E2 H2 hfr2 ⟨j, hj, ⟨d2_0, d2_1, d2_2, d2_3, d2_4, d2_5, d2_6, d2_7, d2_8, d2_9, d2_10, d2_11, d2_12, d2_13, d2_14, d2_15, d2_16, d2_17, d2_18, d2_19, d2_20, d2_21, d2_22, d2_23, d2_24, d2_25, d2_26, d2_27, d2_28, d2_29⟩, h2_6, rfl⟩
    have e2_2 := hfr2 2 rfl; have e2_3 := hfr2 3 rfl; have e2_4 := hfr2 4 rfl; have e2_5 := hfr2 5 rfl
    simp (maxDischargeDepth := 8) only [go_sem, e0_2, e0_3, e0_4, e0_5, d0, zU, List.replicate_zero, List.append_nil, hNE] at e2_2 e2_3 e2_4 e2_5
    clear hfr2
    have d2 := And.intro d2_0 (And.intro d2_1 (And.intro d2_2 (And.intro d2_3 (And.intro d2_4 (And.intro d2_5 (And.intro d2_6 (And.intro d2_7 (And.intro d2_8 (And.intro d2_9 (And.intro d2_10 (And.intro d2_11 (And.intro d2_12 (And.intro d2_13 (And.intro d2_14 (And.intro d2_15 (And.intro d2_16 (And.intro d2_17 (And.intro d2_18 (And.intro d2_19 (And.intro d2_20 (And.intro d2_21 (And.intro d2_22 (And.intro d2_23 (And.intro d2_24 (And.intro d2_25 (And.intro d2_26 (And.intro d2_27 (And.intro d2_28 (d2_29)))))))))))))))))))))))))))))
    simp only [zU]
    by_cases hj2 : j < Wp
    · (replace hA := And.intro e0_2 (And.intro e0_3 (And.intro e0_4 (And.intro e0_5 (And.intro d0 (And.intro e2_2 (And.intro e2_3 (And.intro e2_4 (And.intro e2_5 (And.intro h2_6 (d2)))))))))); replace hP := True.intro; repeat' first | ((with_reducible apply gt_call); first | refine ce_callS ?_ | refine ce_callO ?_) | ((with_reducible apply gt_alloc); (refine ce_alloc ?_; intro la ha hn1; replace hNE := And.intro hNE hn1)) | ((with_reducible apply gt_box); (refine ce_boxL ?_; intro la ha hn1; replace hNE := And.intro hNE hn1)) | ((with_reducible apply gt_g); first | refine ce_gval ?_ | refine ce_gno ?_ | refine ce_gskip ?_ | refine ce_gval2 ?_ | refine ce_gno2 ?_) | ((with_reducible apply gd_call); first | refine de_callS ?_ | refine de_callO ?_) | ((with_reducible apply gd_store); first | refine de_store ?_ | refine de_storeZ ?_) | ((with_reducible refine gd_appT app_22 ?_); first | (refine de_appendU app_22 c_9 ?_; intro la ha hn1; replace hNE := And.intro hNE hn1) | refine de_append app_22 c_9 ?_ ?_ | (refine de_appendL app_22 c_9 ?_; intro la ha hn1; replace hNE := And.intro hNE hn1) | (refine de_appendB app_22 c_9 ?_; intro la ha hn1; replace hNE := And.intro hNE hn1)) | ((with_reducible refine gd_appT app_23 ?_); first | (refine de_appendU app_23 c_4 ?_; intro la ha hn1; replace hNE := And.intro hNE hn1) | refine de_append app_23 c_4 ?_ ?_ | (refine de_appendL app_23 c_4 ?_; intro la ha hn1; replace hNE := And.intro hNE hn1) | (refine de_appendB app_23 c_4 ?_; intro la ha hn1; replace hNE := And.intro hNE hn1)) | ((with_reducible apply gt_cond); first | refine c_cond ?_ ?_ | refine c_condB ?_ ?_) | ((with_reducible apply gt_any); refine ce_val ?_) | ((with_reducible apply gd_any); refine de_val ?_) | ((with_reducible apply gt_drw); first | refine ce_drwA ?_ | refine ce_drwE ?_ | refine ce_drwK ?_ | refine ce_drwZ ?_) | with_reducible first | apply k_seq | apply t_seq | apply t_reg | apply t_nil | apply t_skip | apply t_ret | apply t_exit | apply k_seq_exit | apply k_seq_ret | apply k_blk_exit | refine k_blk_other (by decide) ?_ | apply k_blk_ret | apply k_blk | apply k_invX_ret | apply k_invX_exit | apply t_block | apply m_nil | (with_reducible intro hc; with_reducible exact Bool.noConfusion hc) | (with_reducible intro hc; replace hC := And.intro hC hc))
      refine k_invX (k2 - 1) (by omega) ?_
      intro Ng
      replace hA := And.intro hA (And.intro e0_2 (And.intro e0_3 (And.intro e0_4 (And.intro e0_5 (And.intro d0 (And.intro e2_2 (And.intro e2_3 (And.intro e2_4 (And.intro e2_5 (And.intro h2_6 (d2)))))))))))
      refine ⟨_, _, wkE_id, (by repeat' first | exact rowsok_nil | refine rowsok_cons ?_ ?_ | exact rowok_ghost (by assumption) | exact rowA | ((try simp only [List.replicate_succ', List.append_assoc, zU]) <;> exact rowA)), j + 1, (by first | omega | (simp only [List.length_append, List.length_cons, List.length_nil, List.length_drop, List.length_take, List.length_map]; omega)), (by (repeat' apply And.intro) <;> exact lv_eq), (by (repeat' apply And.intro) <;> first | exact lv_eq | ((try simp only [List.replicate_succ', List.append_assoc, zU]) <;> exact lv_eq) | (simp (maxDischargeDepth := 8) only [go_sem, hNE, hA, List.replicate_succ', List.append_assoc, zU, List.length_append, List.length_cons, List.length_nil, Nat.zero_add]; first | done | rfl)), rfl⟩
    · have hje : j = Wp := by omega
      (replace hA := And.intro e0_2 (And.intro e0_3 (And.intro e0_4 (And.intro e0_5 (And.intro d0 (And.intro e2_2 (And.intro e2_3 (And.intro e2_4 (And.intro e2_5 (And.intro h2_6 (d2)))))))))); replace hP := And.intro @p72' (True.intro); repeat' first | ((with_reducible apply gt_call); first | refine ce_callS ?_ | refine ce_callO ?_) | ((with_reducible apply gt_alloc); (refine ce_alloc ?_; intro la ha hn1; replace hNE := And.intro hNE hn1)) | ((with_reducible apply gt_box); (refine ce_boxL ?_; intro la ha hn1; replace hNE := And.intro hNE hn1)) | ((with_reducible apply gt_g); first | refine ce_gval ?_ | refine ce_gno ?_ | refine ce_gskip ?_ | refine ce_gval2 ?_ | refine ce_gno2 ?_) | ((with_reducible apply gd_call); first | refine de_callS ?_ | refine de_callO ?_) | ((with_reducible apply gd_store); first | refine de_store ?_ | refine de_storeZ ?_) | ((with_reducible refine gd_appT app_22 ?_); first | (refine de_appendU app_22 c_9 ?_; intro la ha hn1; replace hNE := And.intro hNE hn1) | refine de_append app_22 c_9 ?_ ?_ | (refine de_appendL app_22 c_9 ?_; intro la ha hn1; replace hNE := And.intro hNE hn1) | (refine de_appendB app_22 c_9 ?_; intro la ha hn1; replace hNE := And.intro hNE hn1)) | ((with_reducible refine gd_appT app_23 ?_); first | (refine de_appendU app_23 c_4 ?_; intro la ha hn1; replace hNE := And.intro hNE hn1) | refine de_append app_23 c_4 ?_ ?_ | (refine de_appendL app_23 c_4 ?_; intro la ha hn1; replace hNE := And.intro hNE hn1) | (refine de_appendB app_23 c_4 ?_; intro la ha hn1; replace hNE := And.intro hNE hn1)) | ((with_reducible apply gt_cond); first | refine c_cond ?_ ?_ | refine c_condB ?_ ?_) | ((with_reducible apply gt_any); refine ce_val ?_) | ((with_reducible apply gd_any); refine de_val ?_) | ((with_reducible apply gt_drw); first | refine ce_drwA ?_ | refine ce_drwE ?_ | refine ce_drwL [r1, r2] ?_ | refine ce_drwK ?_ | refine ce_drwZ ?_) | with_reducible first | apply k_seq | apply t_seq | apply t_reg | apply t_nil | apply t_skip | apply t_ret | apply t_exit | apply k_seq_exit | apply k_seq_ret | apply k_blk_exit | refine k_blk_other (by decide) ?_ | apply k_blk_ret | apply k_blk | apply k_invX_ret | apply k_invX_exit | apply t_block | apply m_nil | (with_reducible intro hc; with_reducible exact Bool.noConfusion hc) | (with_reducible intro hc; replace hC := And.intro hC hc))
      have hz : dirD u a = (setR u a, stA 0) := by
        rw [dirD, if_neg c1, if_neg c2, if_neg c3, if_neg c4]
      rw [hz] at hK
      have z1 : a.bytes ++ List.replicate j 32 = padS u.width a.bytes := by rw [padS, hWp, hje]
      have z0 : a.number.toNat - 0 = m := by omega
      have z2 : (setR u a).recs.map encS = ((List.replicate m []).map encS).set (a.number - 1).toNat (.str (a.bytes ++ List.replicate j 32)) := by
        rw [z1]; simp only [setR, hr, List.length_nil, z0, List.map_set, encS, List.nil_append]
      have z3 : (setR u a).there.map encB = ((List.replicate m false).map encB).set (a.number - 1).toNat (.bool true) := by
        simp only [setR, ht, List.length_nil, z0, List.map_set, encB, List.nil_append]
      apply gendH rs74
      · (exact ev_eq)
      · refine hK (.arr r1 1 0 m) (.arr r2 1 0 m) _ ?_ ?_
        · refine .inr ⟨r1, [], ?_, ?_⟩
          · rw [z2]; simp
          · rw [z2]; ((try simp only [List.append_nil]) <;> exact sm_eq)
        · refine .inr ⟨r2, [], ?_, ?_⟩
          · rw [z3]; simp
          · rw [z3]; ((try simp only [List.append_nil]) <;> exact sm_eq)
      · ((try simp only [setR, encO, encAn, stA]) <;> exact fin_eq)
end Go.Proofs.Ythdgdngdfijfhaa
namespace Go.Proofs.Ythdgdngdfijfhaa
open Go.RowKit Go.Proofs
set_option linter.unusedVariables false
set_option linter.unusedSimpArgs false
attribute [local irreducible] PPure CallN Tops TopsDm T
def ActK (q : Un × An) (r : PV) (H' : Hp) : Prop := ∃ v1 v2, r = .tup [encO q.1 v1 v2, encAn q.2] ∧ OwnL H' v1 (q.1.recs.map encS) ∧ OwnL H' v2 (q.1.there.map encB)
theorem doneF_there (u : Un) (a : Ac) (ht : u.there = []) (hac : u.access = 0) : (doneF u a).1.there = [] := by
  have := seqF_there u a
  unfold doneF
  repeat' split
  all_goals first | exact ht | (rw [this, ht]) | omega
theorem g73k (u : Un) (a : Ac) (h : Vu u) (hac : u.access = 0) (hk0 : 0 ≤ a.kind) (hk5 : a.kind ≤ 5) (l1 : Lab) :
    CallsG Try.prog 73 [encO u (.arr l1 1 0 u.recs.length) (.list .full []), encAc a] (hp [(l1, .row true 1 (u.recs.map encS))]) (ActK (doneF u a)) := by
  obtain ⟨_, hw, hn, hs, ht, hb, hp0, hp1⟩ | ⟨h1, _⟩ | ⟨h1, _⟩ := h
  · exact g73 u a u.pos.toNat (by omega) (by omega) hn hac hk0 hk5 l1 _ (by simp [hp_cons]) fun v1 H' h => ⟨v1, .list .full [], rfl, h, .inl ⟨by rw [doneF_there u a ht hac]; rfl, rfl⟩⟩
  · omega
  · omega
theorem g74k (u : Un) (a : Ac) (h : Vu u) (hac : u.access = 1) (hk0 : 0 ≤ a.kind) (hk5 : a.kind ≤ 5) (hbl : a.bytes.length ≤ 4000) (l1 l2 : Lab) (hne : l2 ≠ l1) :
    CallsG Try.prog 74 [encO u (.arr l1 1 0 u.recs.length) (.arr l2 1 0 u.there.length), encAc a] (hp [(l2, .row true 1 (u.there.map encB)), (l1, .row true 1 (u.recs.map encS))]) (ActK (doneF u a)) := by
  obtain ⟨h1, _⟩ | ⟨_, hw0, hw1, hn, ht, hst, hl, hb, he, hpz⟩ | ⟨h1, _⟩ := h
  · omega
  · exact g74 u a hac ht hn hw0 hw1 hk0 hk5 hbl l1 l2 _ (by simp [hp_cons, hne.symm]) (by simp [hp_cons]) hne fun v1 v2 H' h1 h2 => by
      rw [← doneD u a hac ht hk0 hk5] at h1 h2 ⊢
      exact ⟨v1, v2, rfl, h1, h2⟩
  · omega
theorem g74ek (u : Un) (a : Ac) (h : Vu u) (hac : u.access = 1) (ht : u.there = []) (hk0 : 0 ≤ a.kind) (hk5 : a.kind ≤ 5) (hbl : a.bytes.length ≤ 4000) (l1 : Lab) :
    CallsG Try.prog 74 [encO u (.arr l1 1 0 u.recs.length) (.list .full []), encAc a] (hp [(l1, .row true 1 (u.recs.map encS))]) (ActK (doneF u a)) := by
  obtain ⟨h1, _⟩ | ⟨_, hw0, hw1, hn, ht2, hst, hl, hb, he, hpz⟩ | ⟨h1, _⟩ := h
  · omega
  · have hr : u.recs = [] := List.length_eq_zero_iff.1 (by rw [← ht2, ht]; rfl)
    rw [show u.recs.length = 0 by rw [hr]; rfl]
    exact g74e u a hac hr ht hw0 hw1 hk0 hk5 hbl l1 _ (by simp [hp_cons, hr]) fun v1 v2 H' h1 h2 => by
      rw [← doneD u a hac ht2 hk0 hk5] at h1 h2 ⊢
      exact ⟨v1, v2, rfl, h1, h2⟩
  · omega
set_option maxHeartbeats 8000000 in
theorem p32a (u : Un) (a : Ac) (h : Vu u) (hk : a.kind = 6 ∨ a.kind = 7) : PPure Try.prog 32 [encU u, encAc a] (.tup [encU (doneF u a).1, encAn (doneF u a).2]) := by
  have hl : u.recs.length ≤ 60 ∧ 0 ≤ u.pos ∧ u.pos ≤ 4000 := by
    obtain ⟨_, hw, hn, hs, ht, hb, hp0, hp1⟩ | ⟨_, hw0, hw1, hn, ht2, hst, hl, hb, he, hpz⟩ | ⟨_, hw, hn, ht, hb, he, hp0, hp1⟩ := h
    · omega
    · omega
    · rw [hn]; simp; omega
  simp only [encU, encAc]
  (refine ppure_of_T ok32 (by simp only [List.length_cons, List.length_nil]; decide) ?_; refine t_seq ?_)
  have hNE := True.intro; have hC := True.intro; have hA := True.intro; have hP := True.intro
  (replace hA := True.intro; replace hP := And.intro @p72' (True.intro); repeat' first | ((with_reducible apply gt_call); first | refine ce_callS ?_ | refine ce_callO ?_) | ((with_reducible apply gt_alloc); (refine ce_alloc ?_; intro la ha hn1; replace hNE := And.intro hNE hn1)) | ((with_reducible apply gt_box); (refine ce_boxL ?_; intro la ha hn1; replace hNE := And.intro hNE hn1)) | ((with_reducible apply gt_store); refine ce_store ?_) | ((with_reducible apply gd_call); first | refine de_callS ?_ | refine de_callO ?_) | ((with_reducible apply gd_store); first | refine de_store ?_ | refine de_storeZ ?_) | ((with_reducible apply gt_cond); first | refine c_cond ?_ ?_ | refine c_condB ?_ ?_) | ((with_reducible apply gt_any); refine ce_val ?_) | ((with_reducible apply gd_any); refine de_val ?_) | ((with_reducible apply gt_drw); first | refine ce_drwA ?_ | refine ce_drwE ?_ | refine ce_drwK ?_ | refine ce_drwZ ?_) | with_reducible first | apply k_seq | apply t_seq | apply t_reg | apply t_nil | apply t_skip | apply t_ret | apply t_exit | apply k_seq_exit | apply k_seq_ret | apply k_blk_exit | refine k_blk_other (by decide) ?_ | apply k_blk_ret | apply k_blk | apply t_block | apply m_nil | (with_reducible intro hc; with_reducible exact Bool.noConfusion hc) | (with_reducible intro hc; replace hC := And.intro hC hc))
  all_goals first | (exfalso; omega) | ((first | refine cpendE rs32 ?_ | refine cpendNE rs32 ?_); ((try simp only [doneF, permF, encU, encAn, stA]) <;> exact fin_eq))
end Go.Proofs.Ythdgdngdfijfhaa
