/- Part 5 of the proof: what the claim needs of the framework, the contracts of functions, and the laws. No conditions. -/
import Derived.Test.YthdgdngdfijfhaaY4
import Derived.Test.YthdgdngdfijfhaaRows
namespace Go.Proofs.Ythdgdngdfijfhaa
open Go.RowKit Go.Proofs
set_option linter.unusedVariables false
set_option linter.unusedSimpArgs false
attribute [local irreducible] PPure CallN Tops TopsDm T
def chkL : List Ev → Nat → Nat → Nat × Int
  | [], i, _ => (i, 0)
  | x :: r, i, n => if (sizeF n x).2 = 0 then chkL r (i + 1) (sizeF n x).1 else (i, (sizeF n x).2)
def chkF (s : List UInt8) (l : List Ev) : Nat × Int := if 20000 < s.length ∨ 300 < l.length then (0, 8) else chkL l 0 s.length
theorem sizeF_le {n : Nat} {x : Ev} (h : (sizeF n x).2 = 0) : evE n x = 0 ∧ (sizeF n x).1 = sizeN n x ∧ sizeN n x ≤ 20000 := by
  unfold sizeF at h ⊢
  split
  · rename_i hz
    rw [if_pos hz] at h
    rw [rfs_zero (by decide)] at h
    simp at h
    exact ⟨hz, rfl, h⟩
  · rename_i hz
    rw [if_neg hz] at h
    exact absurd h hz
attribute [local go_sem] encEv Int.toNat_natCast List.getElem?_map Option.map_some in
set_option maxHeartbeats 2000000 in
theorem p33 (s : List UInt8) (l : List Ev) (hs : s.length ≤ 140737488355328) (hl : l.length ≤ 1000) (hb : ∀ x ∈ l, x.bytes.length ≤ 140737488355328) :
    PPure Try.prog 33 [.str s, .list .any (l.map encEv)] (.tup [.int .i64 ((chkF s l).1 : Int), .int .i64 (chkF s l).2]) := by
  by_cases h1 : 20000 < s.length
  · have e0 : chkF s l = (0, 8) := by simp [chkF, h1]
    have e1 : decide ((20000 : Int) < (s.length : Int)) = true := by simp; omega
    rw [e0]
    (refine ppure_of_T ok33 (by simp only [List.length_cons, List.length_nil]; decide) ?_; refine t_seq ?_)
    (have hA := e1; have hP := True.intro; have hNE := True.intro; have hC := True.intro; repeat' first
        | with_reducible first | refine k_seq ?_ | refine t_seq ?_ | refine t_reg ?_ | refine t_nil ?_ | refine t_ret ?_ | refine k_seq_ret ?_
        | refine ae_val ?_
        | refine ae_gval ?_
        | refine a_cond ?_ ?_
        | (with_reducible intro hc; with_reducible exact Bool.noConfusion hc)
        | (with_reducible intro hc; have hC := And.intro hC hc))
    (first | apply pend rs33 | apply pendN rs33); (focus (simp only [go_sem, Int.natCast_zero]; first | done | exact rfl)); (focus (simp only [go_sem, Int.natCast_zero]; first | done | exact rfl))
  have e1 : decide ((20000 : Int) < (s.length : Int)) = false := by simp; omega
  by_cases h2 : 300 < l.length
  · have e0 : chkF s l = (0, 8) := by simp [chkF, h2]
    have e2 : decide ((300 : Int) < (l.length : Int)) = true := by simp; omega
    rw [e0]
    (refine ppure_of_T ok33 (by simp only [List.length_cons, List.length_nil]; decide) ?_; refine t_seq ?_)
    (have hA := And.intro e1 (e2); have hP := True.intro; have hNE := True.intro; have hC := True.intro; repeat' first
        | with_reducible first | refine k_seq ?_ | refine t_seq ?_ | refine t_reg ?_ | refine t_nil ?_ | refine t_ret ?_ | refine k_seq_ret ?_
        | refine ae_val ?_
        | refine ae_gval ?_
        | refine a_cond ?_ ?_
        | (with_reducible intro hc; with_reducible exact Bool.noConfusion hc)
        | (with_reducible intro hc; have hC := And.intro hC hc))
    (first | apply pend rs33 | apply pendN rs33); (focus (simp only [go_sem, Int.natCast_zero]; first | done | exact rfl)); (focus (simp only [go_sem, Int.natCast_zero]; first | done | exact rfl))
  have e2 : decide ((300 : Int) < (l.length : Int)) = false := by simp; omega
  have e0 : chkF s l = chkL l 0 s.length := by simp [chkF, h1, h2]
  obtain ⟨R, hR⟩ : ∃ R, chkL l 0 s.length = R := ⟨_, rfl⟩
  rw [e0, hR]
  (refine ppure_of_T ok33 (by simp only [List.length_cons, List.length_nil]; decide) ?_; refine t_seq ?_)
  (have hA := And.intro e1 (e2); have hP := True.intro; have hNE := True.intro; have hC := True.intro; repeat' first
      | with_reducible first | refine k_seq ?_ | refine t_seq ?_ | refine t_reg ?_ | refine t_nil ?_ | refine t_skip ?_ | refine t_block ?_
      | refine ae_val ?_
      | refine ae_gval ?_
      | refine a_cond ?_ ?_
      | (with_reducible intro hc; with_reducible exact Bool.noConfusion hc)
      | (with_reducible intro hc; have hC := And.intro hC hc))
  refine t_loopX (fun (k0 : Nat) (E0 : Nat → PV) (H0 : Hp) => ∃ (i : Nat) (n : Nat), i + k0 = l.length ∧ n ≤ 20000 ∧ chkL (l.drop i) i n = R ∧ E0 23 = .int .i64 (i : Int) ∧ E0 6 = .int .i64 (n : Int) ∧ E0 4 = .int .i64 0 ∧ E0 5 = .int .i64 0 ∧ H0 = hp []) (l.length) ?_ ?_
  intro Ng
  refine ⟨_, _, wkE_id, rowsok_nil, 0, s.length, (by first | omega | rfl | assumption | (simp (maxDischargeDepth := 8) only [go_sem, Int.natCast_zero, hNE]; first | done | rfl | assumption | omega)), (by first | omega | rfl | assumption | (simp (maxDischargeDepth := 8) only [go_sem, Int.natCast_zero, hNE]; first | done | rfl | assumption | omega)), ?_, (by simp (maxDischargeDepth := 8) only [go_sem, Int.natCast_zero, hNE, List.length_append, List.length_cons, List.length_nil, Nat.zero_add]; first | done | rfl), (by simp (maxDischargeDepth := 8) only [go_sem, Int.natCast_zero, hNE, List.length_append, List.length_cons, List.length_nil, Nat.zero_add]; first | done | rfl), (by simp (maxDischargeDepth := 8) only [go_sem, Int.natCast_zero, hNE, List.length_append, List.length_cons, List.length_nil, Nat.zero_add]; first | done | rfl), (by simp (maxDischargeDepth := 8) only [go_sem, Int.natCast_zero, hNE, List.length_append, List.length_cons, List.length_nil, Nat.zero_add]; first | done | rfl), rfl⟩
  · exact hR
  rintro k0 E0 H0 hfr0 ⟨i, n, hk, hn, hr, h0_23, h0_6, h0_4, h0_5, rfl⟩
  have e0_1 := hfr0 1 rfl; have e0_21 := hfr0 21 rfl; have e0_22 := hfr0 22 rfl
  simp (maxDischargeDepth := 8) only [go_sem, Int.natCast_zero, hNE] at e0_1 e0_21 e0_22
  clear hfr0
  by_cases hi : i < l.length
  · obtain ⟨x, hx, hdr⟩ := at_list hi
    have hlt := lt_int hi
    have hw := wrap_next hi hl
    have hge : (0 : Int) ≤ (i : Int) := by omega
    have h76 := p76 n x hn (hb x (List.mem_of_getElem? hx))
    rw [hdr, chkL] at hr
    by_cases hz : (sizeF n x).2 = 0
    · have hle := sizeF_le hz
      rw [if_pos hz] at hr
      generalize sizeF n x = q at h76 hr hz hle
      have hq : q.1 ≤ 20000 := by omega
      have ez : decide (¬ q.2 = 0) = false := dnz0 hz
      simp only [encEv] at h76
      (have hA := And.intro e0_1 (And.intro e0_21 (And.intro e0_22 (And.intro h0_23 (And.intro h0_6 (And.intro h0_4 (And.intro h0_5 (And.intro hlt (And.intro hge (And.intro hx (ez)))))))))); have hP := And.intro h76 (True.intro); have hNE := True.intro; have hC := True.intro; repeat' first
          | with_reducible first | refine k_seq ?_ | refine t_seq ?_ | refine t_reg ?_ | refine t_nil ?_ | refine t_skip ?_ | refine k_blk ?_ | refine t_block ?_
          | refine ae_val ?_
          | refine ae_callS ?_
          | (refine ae_alloc ?_; intro la ha hn1; have hNE := And.intro hNE hn1)
          | refine ae_store ?_
          | refine a_cond ?_ ?_
          | (with_reducible intro hc; with_reducible exact Bool.noConfusion hc)
          | (with_reducible intro hc; have hC := And.intro hC hc))
      refine k_invX (k0 - 1) (by omega) ?_
      intro Ng
      refine ⟨_, _, wkE_id, rowsok_nil, i + 1, q.1, (by first | omega | (simp only [List.length_append, List.length_cons, List.length_nil, List.length_drop, List.length_take, List.length_map]; omega)), (by first | omega | (simp only [List.length_append, List.length_cons, List.length_nil, List.length_drop, List.length_take, List.length_map]; omega)), ?_, (by simp (maxDischargeDepth := 8) only [go_sem, e0_1, e0_21, e0_22, h0_23, h0_6, h0_4, h0_5, hw, hNE, List.length_append, List.length_cons, List.length_nil, Nat.zero_add]; first | done | rfl), (by simp (maxDischargeDepth := 8) only [go_sem, e0_1, e0_21, e0_22, h0_23, h0_6, h0_4, h0_5, hw, hNE, List.length_append, List.length_cons, List.length_nil, Nat.zero_add]; first | done | rfl), (by simp (maxDischargeDepth := 8) only [go_sem, e0_1, e0_21, e0_22, h0_23, h0_6, h0_4, h0_5, hw, hNE, List.length_append, List.length_cons, List.length_nil, Nat.zero_add]; first | done | rfl), (by simp (maxDischargeDepth := 8) only [go_sem, e0_1, e0_21, e0_22, h0_23, h0_6, h0_4, h0_5, hw, hNE, List.length_append, List.length_cons, List.length_nil, Nat.zero_add]; first | done | rfl), rfl⟩
      exact hr
    · rw [if_neg hz] at hr
      generalize sizeF n x = q at h76 hr hz
      have ez : decide (¬ q.2 = 0) = true := dnz1 hz
      simp only [encEv] at h76
      subst hr
      (have hA := And.intro e0_1 (And.intro e0_21 (And.intro e0_22 (And.intro h0_23 (And.intro h0_6 (And.intro h0_4 (And.intro h0_5 (And.intro hlt (And.intro hge (And.intro hx (ez)))))))))); have hP := And.intro h76 (True.intro); have hNE := True.intro; have hC := True.intro; repeat' first
          | with_reducible first | refine k_seq ?_ | refine t_seq ?_ | refine t_reg ?_ | refine t_nil ?_ | refine t_skip ?_ | refine t_ret ?_ | refine k_seq_ret ?_ | refine k_blk_ret ?_ | refine k_invX_ret ?_ | refine t_block ?_
          | refine ae_val ?_
          | refine ae_callS ?_
          | (refine ae_alloc ?_; intro la ha hn1; have hNE := And.intro hNE hn1)
          | refine ae_store ?_
          | refine a_cond ?_ ?_
          | (with_reducible intro hc; with_reducible exact Bool.noConfusion hc)
          | (with_reducible intro hc; have hC := And.intro hC hc))
      (first | apply pend rs33 | apply pendN rs33); (focus (simp (maxDischargeDepth := 8) only [hNE, go_sem, e0_1, e0_21, e0_22, h0_23, h0_6, h0_4, h0_5]; first | done | exact rfl)); (focus (simp (maxDischargeDepth := 8) only [hNE, go_sem, e0_1, e0_21, e0_22, h0_23, h0_6, h0_4, h0_5]; first | done | exact rfl))
  · have hlt := nlt_int hi
    have hil : i = l.length := by omega
    rw [hil, List.drop_length, chkL] at hr
    subst hr
    (have hA := And.intro e0_1 (And.intro e0_21 (And.intro e0_22 (And.intro h0_23 (And.intro h0_6 (And.intro h0_4 (And.intro h0_5 (hlt))))))); have hP := True.intro; have hNE := True.intro; have hC := True.intro; repeat' first
        | with_reducible first | refine k_seq ?_ | refine t_seq ?_ | refine t_reg ?_ | refine t_nil ?_ | refine t_ret ?_ | refine t_exit ?_ | refine k_seq_exit ?_ | refine k_blk_exit ?_ | refine k_invX_exit ?_
        | refine ae_val ?_
        | refine a_cond ?_ ?_
        | (with_reducible intro hc; with_reducible exact Bool.noConfusion hc)
        | (with_reducible intro hc; have hC := And.intro hC hc))
    (first | apply pend rs33 | apply pendN rs33); (focus (simp only [go_sem, e0_1, e0_21, e0_22, h0_23, h0_6, h0_4, h0_5]; first | done | exact rfl)); (focus (simp only [go_sem, e0_1, e0_21, e0_22, h0_23, h0_6, h0_4, h0_5]; first | done | exact rfl))
def aftF (s : List UInt8) (x : Ev) : List UInt8 :=
  if x.kind = 0 then s.take x.pos.toNat ++ x.bytes ++ s.drop (min (x.pos.toNat + x.bytes.length) s.length) else if x.kind = 1 then s.take x.pos.toNat else s
theorem aft_len {s : List UInt8} {x : Ev} (h : evE s.length x = 0) : (aftF s x).length = sizeN s.length x := by
  obtain ⟨h1, h2, h3, h4⟩ := evE_zero h
  unfold aftF sizeN
  split
  · simp; omega
  · split
    · simp; omega
    · rfl
attribute [local go_sem] pvMinMax strCmp in
set_option maxHeartbeats 2000000 in
theorem p78 (s : List UInt8) (x : Ev) (h : evE s.length x = 0) (hl : s.length ≤ 20000) (hb : x.bytes.length ≤ 140737488355328) : PPure Try.prog 78 [.str s, encEv x] (.str (aftF s x)) := by
  obtain ⟨h1, h2, h3, h4⟩ := evE_zero h
  obtain ⟨p, hp⟩ : ∃ p : Nat, x.pos = (p : Int) := ⟨x.pos.toNat, by omega⟩
  have hpn : x.pos.toNat = p := by omega
  have b1 : (0 : Int) ≤ (p : Int) := by omega
  have b2 : (p : Int) ≤ (s.length : Int) := by omega
  by_cases hk0 : x.kind = 0
  · obtain ⟨m, hm⟩ : ∃ m, min (p + x.bytes.length) s.length = m := ⟨_, rfl⟩
    have e0 : aftF s x = s.take p ++ x.bytes ++ s.drop m := by simp [aftF, hk0, hpn, hm]
    have w1 : IntKind.i64.wrap ((p : Int) + (x.bytes.length : Int)) = ((p + x.bytes.length : Nat) : Int) := by rw [IntKind.wrap_i64]; omega
    have mn : (if (s.length : Int) < ((p + x.bytes.length : Nat) : Int) then (s.length : Int) else ((p + x.bytes.length : Nat) : Int)) = (m : Int) := by split <;> omega
    have b3 : (0 : Int) ≤ (m : Int) := by omega
    have b4 : (m : Int) ≤ (s.length : Int) := by omega
    have b5 : (((s.take p).length + x.bytes.length : Nat) : Int) ≤ 9223372036854775807 := by simp; omega
    have b6 : (((s.take p ++ x.bytes).length + (s.drop m).length : Nat) : Int) ≤ 9223372036854775807 := by simp; omega
    rw [e0]
    simp only [encEv, hk0, hp]
    (refine ppure_of_T ok78 (by simp only [List.length_cons, List.length_nil]; decide) ?_; refine t_seq ?_)
    (have hA := And.intro b1 (And.intro b2 (And.intro b3 (And.intro b4 (And.intro w1 (And.intro mn (And.intro b5 (b6))))))); have hP := True.intro; have hNE := True.intro; have hC := True.intro; repeat' first
        | ((with_reducible apply te_drwA); (focus (simp (maxDischargeDepth := 8) only [effFlA, List.map_cons, List.map_nil]; exact rfl)); (focus decide +kernel))
        | with_reducible first | refine k_seq ?_ | refine t_seq ?_ | refine t_reg ?_ | refine t_nil ?_ | refine t_ret ?_ | refine k_seq_ret ?_ | refine k_blk_ret ?_ | refine t_block ?_ | refine m_nil ?_
        | refine ae_val ?_
        | refine be_val ?_
        | refine ae_box ?_
        | refine a_cond ?_ ?_
        | (with_reducible intro hc; with_reducible exact Bool.noConfusion hc)
        | (with_reducible intro hc; have hC := And.intro hC hc))
    (first | apply pend rs78 | apply pendN rs78); (focus (simp (maxDischargeDepth := 8) only [hNE, go_sem]; first | done | exact rfl)); (focus (simp (maxDischargeDepth := 8) only [hNE, go_sem]; first | done | exact rfl))
  have ek0 : decide (x.kind = 0) = false := by simp [hk0]
  by_cases hk1 : x.kind = 1
  · have e0 : aftF s x = s.take p := by simp [aftF, hk1, hpn]
    rw [e0]
    simp only [encEv, hk1, hp]
    (refine ppure_of_T ok78 (by simp only [List.length_cons, List.length_nil]; decide) ?_; refine t_seq ?_)
    (have hA := And.intro b1 (b2); have hP := True.intro; have hNE := True.intro; have hC := True.intro; repeat' first
        | with_reducible first | refine k_seq ?_ | refine t_seq ?_ | refine t_reg ?_ | refine t_nil ?_ | refine t_ret ?_ | refine k_seq_ret ?_ | refine k_blk_ret ?_ | refine t_block ?_
        | refine ae_val ?_
        | refine ae_box ?_
        | refine a_cond ?_ ?_
        | (with_reducible intro hc; with_reducible exact Bool.noConfusion hc)
        | (with_reducible intro hc; have hC := And.intro hC hc))
    (first | apply pend rs78 | apply pendN rs78); (focus (simp (maxDischargeDepth := 8) only [hNE, go_sem]; first | done | exact rfl)); (focus (simp (maxDischargeDepth := 8) only [hNE, go_sem]; first | done | exact rfl))
  · have e0 : aftF s x = s := by simp [aftF, hk0, hk1]
    have ek1 : decide (x.kind = 1) = false := by simp [hk1]
    rw [e0]
    simp only [encEv]
    (refine ppure_of_T ok78 (by simp only [List.length_cons, List.length_nil]; decide) ?_; refine t_seq ?_)
    (have hA := And.intro ek0 (ek1); have hP := True.intro; have hNE := True.intro; have hC := True.intro; repeat' first
        | with_reducible first | refine k_seq ?_ | refine t_seq ?_ | refine t_reg ?_ | refine t_nil ?_ | refine t_skip ?_ | refine t_ret ?_ | refine k_blk ?_ | refine t_block ?_
        | refine ae_val ?_
        | refine ae_box ?_
        | refine a_cond ?_ ?_
        | (with_reducible intro hc; with_reducible exact Bool.noConfusion hc)
        | (with_reducible intro hc; have hC := And.intro hC hc))
    (first | apply pend rs78 | apply pendN rs78); (focus (simp (maxDischargeDepth := 8) only [hNE, go_sem]; first | done | exact rfl)); (focus (simp (maxDischargeDepth := 8) only [hNE, go_sem]; first | done | exact rfl))
def wrF (s : List UInt8) (l : List Ev) : List UInt8 := l.foldl aftF s
def EvV : Nat → List Ev → Prop
  | _, [] => True
  | n, x :: r => (sizeF n x).2 = 0 ∧ EvV (sizeF n x).1 r
theorem chkL_zero : ∀ (l : List Ev) (i n : Nat), (chkL l i n).2 = 0 ↔ EvV n l
  | [], i, n => by simp [chkL, EvV]
  | x :: l, i, n => by
    rw [chkL, EvV]
    split
    · rename_i h; rw [chkL_zero l]; simp [h]
    · rename_i h; simp [h]
theorem wrF_len : ∀ (l : List Ev) (s : List UInt8), s.length ≤ 20000 → EvV s.length l → (wrF s l).length ≤ 20000
  | [], s, h, _ => h
  | x :: l, s, h, hv => by
    obtain ⟨h1, h2⟩ := hv
    obtain ⟨g1, g2, g3⟩ := sizeF_le h1
    have e := aft_len g1
    rw [wrF, List.foldl_cons]
    rw [g2, ← e] at h2
    exact wrF_len l _ (by omega) h2
theorem EvV_take : ∀ (l : List Ev) (n k : Nat), EvV n l → EvV n (l.take k)
  | _, _, 0, _ => trivial
  | [], _, k + 1, _ => trivial
  | x :: l, n, k + 1, h => ⟨h.1, EvV_take l _ k h.2⟩
attribute [local go_sem] encEv Int.toNat_natCast List.getElem?_map Option.map_some in
set_option maxHeartbeats 2000000 in
theorem p77 (s0 : List UInt8) (l : List Ev) (hs : s0.length ≤ 20000) (hl : l.length ≤ 1000) (hv : EvV s0.length l) (hb : ∀ x ∈ l, x.bytes.length ≤ 140737488355328) :
    PPure Try.prog 77 [.str s0, .list .any (l.map encEv)] (.str (wrF s0 l)) := by
  obtain ⟨R, hR⟩ : ∃ R, wrF s0 l = R := ⟨_, rfl⟩
  rw [hR]
  (refine ppure_of_T ok77 (by simp only [List.length_cons, List.length_nil]; decide) ?_; refine t_seq ?_)
  (have hA := True.intro; have hP := True.intro; have hNE := True.intro; have hC := True.intro; repeat' first
      | with_reducible first | refine k_seq ?_ | refine t_seq ?_ | refine t_reg ?_ | refine t_nil ?_ | refine t_block ?_
      | refine ae_val ?_)
  refine t_loopX (fun (k0 : Nat) (E0 : Nat → PV) (H0 : Hp) => ∃ (i : Nat) (s : List UInt8), i + k0 = l.length ∧ s.length ≤ 20000 ∧ wrF s (l.drop i) = R ∧ EvV s.length (l.drop i) ∧ E0 9 = .int .i64 (i : Int) ∧ E0 0 = .str s ∧ H0 = hp []) (l.length) ?_ ?_
  intro Ng
  refine ⟨_, _, wkE_id, rowsok_nil, 0, s0, (by first | omega | rfl | assumption | (simp (maxDischargeDepth := 8) only [go_sem, Int.natCast_zero, hNE]; first | done | rfl | assumption | omega)), (by first | omega | rfl | assumption | (simp (maxDischargeDepth := 8) only [go_sem, Int.natCast_zero, hNE]; first | done | rfl | assumption | omega)), ?_, ?_, (by simp (maxDischargeDepth := 8) only [go_sem, Int.natCast_zero, hNE, List.length_append, List.length_cons, List.length_nil, Nat.zero_add]; first | done | rfl), (by simp (maxDischargeDepth := 8) only [go_sem, Int.natCast_zero, hNE, List.length_append, List.length_cons, List.length_nil, Nat.zero_add]; first | done | rfl), rfl⟩
  · exact hR
  · exact hv
  rintro k0 E0 H0 hfr0 ⟨i, s, hk, hn, hr, he, h0_9, h0_0, rfl⟩
  have e0_4 := hfr0 4 rfl; have e0_7 := hfr0 7 rfl; have e0_8 := hfr0 8 rfl
  simp (maxDischargeDepth := 8) only [go_sem, Int.natCast_zero, hNE] at e0_4 e0_7 e0_8
  clear hfr0
  by_cases hi : i < l.length
  · obtain ⟨x, hx, hdr⟩ := at_list hi
    have hlt := lt_int hi
    have hw := wrap_next hi hl
    have hge : (0 : Int) ≤ (i : Int) := by omega
    rw [hdr] at hr he
    obtain ⟨h1, h2⟩ := he
    obtain ⟨g1, g2, g3⟩ := sizeF_le h1
    have hal := aft_len g1
    have h78 := p78 s x g1 hn (hb x (List.mem_of_getElem? hx))
    rw [wrF, List.foldl_cons] at hr
    rw [g2, ← hal] at h2
    have hn2 : (aftF s x).length ≤ 20000 := by omega
    generalize aftF s x = q at h78 hr h2 hn2
    simp only [encEv] at h78
    (have hA := And.intro e0_4 (And.intro e0_7 (And.intro e0_8 (And.intro h0_9 (And.intro h0_0 (And.intro hlt (And.intro hge (hx))))))); have hP := And.intro h78 (True.intro); have hNE := True.intro; have hC := True.intro; repeat' first
        | with_reducible first | refine k_seq ?_ | refine t_seq ?_ | refine t_reg ?_ | refine t_nil ?_ | refine t_skip ?_ | refine k_blk ?_ | refine t_block ?_
        | refine ae_val ?_
        | refine ae_callS ?_
        | (refine ae_alloc ?_; intro la ha hn1; have hNE := And.intro hNE hn1)
        | refine ae_store ?_
        | refine a_cond ?_ ?_
        | (with_reducible intro hc; with_reducible exact Bool.noConfusion hc)
        | (with_reducible intro hc; have hC := And.intro hC hc))
    refine k_invX (k0 - 1) (by omega) ?_
    intro Ng
    refine ⟨_, _, wkE_id, rowsok_nil, i + 1, q, (by first | omega | (simp only [List.length_append, List.length_cons, List.length_nil, List.length_drop, List.length_take, List.length_map]; omega)), (by first | omega | (simp only [List.length_append, List.length_cons, List.length_nil, List.length_drop, List.length_take, List.length_map]; omega)), ?_, ?_, (by simp (maxDischargeDepth := 8) only [go_sem, e0_4, e0_7, e0_8, h0_9, h0_0, hw, hNE, List.length_append, List.length_cons, List.length_nil, Nat.zero_add]; first | done | rfl), (by simp (maxDischargeDepth := 8) only [go_sem, e0_4, e0_7, e0_8, h0_9, h0_0, hw, hNE, List.length_append, List.length_cons, List.length_nil, Nat.zero_add]; first | done | rfl), rfl⟩
    · exact hr
    · exact h2
  · have hlt := nlt_int hi
    have hil : i = l.length := by omega
    rw [hil, List.drop_length, wrF, List.foldl_nil] at hr
    subst hr
    (have hA := And.intro e0_4 (And.intro e0_7 (And.intro e0_8 (And.intro h0_9 (And.intro h0_0 (hlt))))); have hP := True.intro; have hNE := True.intro; have hC := True.intro; repeat' first
        | with_reducible first | refine k_seq ?_ | refine t_seq ?_ | refine t_reg ?_ | refine t_nil ?_ | refine t_ret ?_ | refine t_exit ?_ | refine k_seq_exit ?_ | refine k_blk_exit ?_ | refine k_invX_exit ?_
        | refine ae_val ?_
        | refine a_cond ?_ ?_
        | (with_reducible intro hc; with_reducible exact Bool.noConfusion hc)
        | (with_reducible intro hc; have hC := And.intro hC hc))
    (first | apply pend rs77 | apply pendN rs77); (focus (simp only [go_sem, e0_4, e0_7, e0_8, h0_9, h0_0]; first | done | exact rfl)); (focus (simp only [go_sem, e0_4, e0_7, e0_8, h0_9, h0_0]; first | done | exact rfl))
def wrG (s : List UInt8) (l : List Ev) : List UInt8 × Int := if (chkF s l).2 = 0 then (wrF s l, 0) else ([], (chkF s l).2)
theorem chkF_zero {s : List UInt8} {l : List Ev} (h : (chkF s l).2 = 0) : s.length ≤ 20000 ∧ l.length ≤ 300 ∧ EvV s.length l := by
  unfold chkF at h
  split at h
  · cases h
  · rename_i hn
    exact ⟨by omega, by omega, (chkL_zero l 0 s.length).1 h⟩
theorem p35 (s : List UInt8) (l : List Ev) (hs : s.length ≤ 140737488355328) (hl : l.length ≤ 1000) (hb : ∀ x ∈ l, x.bytes.length ≤ 140737488355328) :
    PPure Try.prog 35 [.str s, .list .any (l.map encEv)] (.tup [.str (wrG s l).1, .int .i64 (wrG s l).2]) := by
  have h1 := p33 s l hs hl hb
  by_cases hz : (chkF s l).2 = 0
  · obtain ⟨g1, g2, g3⟩ := chkF_zero hz
    have h2 := p77 s l g1 hl g3 hb
    have ez := dnz0 hz
    have e0 : wrG s l = (wrF s l, 0) := by rw [wrG, if_pos hz]
    rw [e0]
    (refine ppure_of_T ok35 (by simp only [List.length_cons, List.length_nil]; decide) ?_; refine t_seq ?_)
    (have hA := ez; have hP := And.intro h1 (And.intro h2 (True.intro)); have hNE := True.intro; have hC := True.intro; repeat' first
        | with_reducible first | refine k_seq ?_ | refine t_seq ?_ | refine t_reg ?_ | refine t_nil ?_ | refine t_skip ?_ | refine t_ret ?_
        | refine ae_val ?_
        | refine ae_callS ?_
        | refine a_cond ?_ ?_
        | (with_reducible intro hc; with_reducible exact Bool.noConfusion hc)
        | (with_reducible intro hc; have hC := And.intro hC hc))
    (first | apply pend rs35 | apply pendN rs35); (focus (simp only [go_sem]; first | done | exact rfl)); (focus (simp only [go_sem]; first | done | exact rfl))
  · have ez := dnz1 hz
    have e0 : wrG s l = ([], (chkF s l).2) := by rw [wrG, if_neg hz]
    rw [e0]
    (refine ppure_of_T ok35 (by simp only [List.length_cons, List.length_nil]; decide) ?_; refine t_seq ?_)
    (have hA := ez; have hP := And.intro h1 (True.intro); have hNE := True.intro; have hC := True.intro; repeat' first
        | with_reducible first | refine k_seq ?_ | refine t_seq ?_ | refine t_reg ?_ | refine t_nil ?_ | refine t_ret ?_ | refine k_seq_ret ?_
        | refine ae_val ?_
        | refine ae_callS ?_
        | refine a_cond ?_ ?_
        | (with_reducible intro hc; with_reducible exact Bool.noConfusion hc)
        | (with_reducible intro hc; have hC := And.intro hC hc))
    (first | apply pend rs35 | apply pendN rs35); (focus (simp only [go_sem]; first | done | exact rfl)); (focus (simp only [go_sem]; first | done | exact rfl))
end Go.Proofs.Ythdgdngdfijfhaa
namespace Go.Proofs.Ythdgdngdfijfhaa
open Go.RowKit Go.Proofs
set_option linter.unusedVariables false
set_option linter.unusedSimpArgs false
attribute [local irreducible] PPure CallN Tops TopsDm T
structure Fl where
  (reached kept part : Int)
def encFl (x : Fl) : PV := .agg [.int .i64 x.reached, .int .i64 x.kept, .int .i64 x.part]
def syncL : List Ev → Nat → Nat → Nat
  | [], _, a => a
  | y :: r, i, a => syncL r (i + 1) (if y.kind = 2 then i + 1 else a)
def nextE (l : List Ev) (x : Fl) : Ev := (l[x.kept.toNat]?).getD ⟨0, 0, []⟩
def nextB (l : List Ev) (x : Fl) : List UInt8 := if (nextE l x).kind = 0 then (nextE l x).bytes else []
def failF (s : List UInt8) (l : List Ev) (x : Fl) : List UInt8 × Int :=
  if (chkF s l).2 ≠ 0 then ([], (chkF s l).2)
  else if btw x.reached 0 l.length = false then ([], 2)
  else if btw x.kept (syncL (l.take x.reached.toNat) 0 0) x.reached = false then ([], 2)
  else if btw x.part 0 (nextB l x).length = false then ([], 2)
  else if 0 < x.part then (aftF (wrF s (l.take x.kept.toNat)) { nextE l x with bytes := (nextB l x).take x.part.toNat }, 0)
  else (wrF s (l.take x.kept.toNat), 0)
theorem wr_at : ∀ (l : List Ev) (s : List UInt8) (k : Nat) (x : Ev), EvV s.length l → l[k]? = some x → evE (wrF s (l.take k)).length x = 0
  | [], s, k, x, _, h => by simp at h
  | y :: l, s, 0, x, hv, h => by
    obtain rfl : y = x := by simpa using h
    exact (sizeF_le hv.1).1
  | y :: l, s, k + 1, x, hv, h => by
    obtain ⟨h1, h2⟩ := hv
    obtain ⟨g1, g2, g3⟩ := sizeF_le h1
    rw [g2, ← aft_len g1] at h2
    rw [List.take_succ_cons, wrF, List.foldl_cons]
    exact wr_at l _ k x h2 (by simpa using h)
theorem syncL_le : ∀ (l : List Ev) (i a m : Nat), a ≤ m → i + l.length ≤ m → syncL l i a ≤ m
  | [], i, a, m, h, _ => h
  | y :: l, i, a, m, h, h2 => by
    rw [syncL]
    refine syncL_le l _ _ m ?_ (by simp at h2; omega)
    split
    · simp at h2; omega
    · exact h
theorem evE_cut {n : Nat} {x : Ev} {m : Nat} (h : evE n x = 0) (hm : 0 < m) (hk : x.kind = 0) : evE n { x with bytes := x.bytes.take m } = 0 := by
  obtain ⟨h1, h2, h3, h4⟩ := evE_zero h
  have hne : x.bytes ≠ [] := fun e => by simp [ev2B, hk, e] at h2
  have h5 : (x.bytes.take m == []) = false := by
    simp only [beq_eq_false_iff_ne, ne_eq, List.take_eq_nil_iff, not_or]
    exact ⟨by omega, hne⟩
  rw [evE, orE_zero] at h ⊢
  intro y hy
  simp only [List.mem_cons, List.mem_nil_iff, or_false] at hy
  rcases hy with rfl | rfl | rfl
  · exact h (ev1 x) (by simp)
  · rw [ev2, rfs_zero (by decide)]; simp [ev2B, hk, h5]
  · exact h (ev3 n x) (by simp)
attribute [local go_sem] encEv Int.toNat_natCast List.getElem?_map Option.map_some in
set_option maxHeartbeats 4000000 in
theorem p36 (s : List UInt8) (l : List Ev) (x : Fl) (hs : s.length ≤ 140737488355328) (hl : l.length ≤ 1000) (hb : ∀ x ∈ l, x.bytes.length ≤ 140737488355328) :
    PPure Try.prog 36 [.str s, .list .any (l.map encEv), encFl x] (.tup [.str (failF s l x).1, .int .i64 (failF s l x).2]) := by
  have h1 := p33 s l hs hl hb
  by_cases hz : ¬ (chkF s l).2 = 0
  · have ez := dnz1 hz
    have e0 : failF s l x = ([], (chkF s l).2) := by simp [failF, hz]
    rw [e0]
    simp only [encFl]
    (refine ppure_of_T ok36 (by simp only [List.length_cons, List.length_nil]; decide) ?_; refine t_seq ?_)
    (have hA := ez; have hP := And.intro h1 (True.intro); have hNE := True.intro; have hC := True.intro; repeat' first
        | with_reducible first | refine k_seq ?_ | refine t_seq ?_ | refine t_reg ?_ | refine t_nil ?_ | refine t_ret ?_ | refine k_seq_ret ?_
        | refine ae_val ?_
        | refine ae_callS ?_
        | refine ae_box ?_
        | refine a_cond ?_ ?_
        | (with_reducible intro hc; with_reducible exact Bool.noConfusion hc)
        | (with_reducible intro hc; have hC := And.intro hC hc))
    (first | apply pend rs36 | apply pendN rs36); (focus (simp (maxDischargeDepth := 8) only [hNE, go_sem]; first | done | exact rfl)); (focus (simp (maxDischargeDepth := 8) only [hNE, go_sem]; first | done | exact rfl))
  have hz := Decidable.not_not.1 hz
  obtain ⟨g1, g2, g3⟩ := chkF_zero hz
  have ez := dnz0 hz
  have h2 : PPure Try.prog 58 [.int .i64 x.reached, .int .i64 0, .int .i64 (l.length : Int)] (.bool (btw x.reached 0 l.length)) := p58 _ _ _
  by_cases hre : ¬ btw x.reached 0 l.length = true
  · have e0 : failF s l x = ([], 2) := by simp [failF, hz, hre]
    have er : (!btw x.reached 0 l.length) = true := by simp [hre]
    rw [e0]
    simp only [encFl]
    (refine ppure_of_T ok36 (by simp only [List.length_cons, List.length_nil]; decide) ?_; refine t_seq ?_)
    (have hA := And.intro ez (er); have hP := And.intro h1 (And.intro h2 (True.intro)); have hNE := True.intro; have hC := True.intro; repeat' first
        | with_reducible first | refine k_seq ?_ | refine t_seq ?_ | refine t_reg ?_ | refine t_nil ?_ | refine t_skip ?_ | refine t_ret ?_ | refine k_seq_ret ?_
        | refine ae_val ?_
        | refine ae_callS ?_
        | refine ae_box ?_
        | refine a_cond ?_ ?_
        | (with_reducible intro hc; with_reducible exact Bool.noConfusion hc)
        | (with_reducible intro hc; have hC := And.intro hC hc))
    (first | apply pend rs36 | apply pendN rs36); (focus (simp (maxDischargeDepth := 8) only [hNE, go_sem]; first | done | exact rfl)); (focus (simp (maxDischargeDepth := 8) only [hNE, go_sem]; first | done | exact rfl))
  have hre := Decidable.not_not.1 hre
  have er : (!btw x.reached 0 l.length) = false := by simp [hre]
  have hre2 := hre
  rw [btw_true] at hre2
  obtain ⟨r, hr⟩ : ∃ r : Nat, x.reached = (r : Int) := ⟨x.reached.toNat, by omega⟩
  have hr2 : x.reached.toNat = r := by omega
  have b1 : (0 : Int) ≤ (r : Int) := by omega
  have b2 : (r : Int) ≤ (l.length : Int) := by omega
  have hrl : (l.take r).length = r := by simp; omega
  obtain ⟨S, hS⟩ : ∃ S, syncL (l.take r) 0 0 = S := ⟨_, rfl⟩
  have hSr : S ≤ r := by rw [← hS]; exact syncL_le _ _ _ _ (by omega) (by rw [hrl]; omega)
  obtain ⟨ks, hks⟩ : ∃ ks, l.take r = ks := ⟨_, rfl⟩
  rw [hks] at hrl hS
  obtain ⟨R, hR⟩ : ∃ R, failF s l x = R := ⟨_, rfl⟩
  rw [hR]
  simp only [hr] at h2 er
  simp only [encFl, hr]
  (refine ppure_of_T ok36 (by simp only [List.length_cons, List.length_nil]; decide) ?_; refine t_seq ?_)
  (have hA := And.intro ez (And.intro er (And.intro b1 (And.intro b2 (hks)))); have hP := And.intro h1 (And.intro h2 (True.intro)); have hNE := True.intro; have hC := True.intro; repeat' first
      | with_reducible first | refine k_seq ?_ | refine t_seq ?_ | refine t_reg ?_ | refine t_nil ?_ | refine t_skip ?_ | refine t_block ?_
      | refine ae_val ?_
      | refine ae_callS ?_
      | refine ae_box ?_
      | refine a_cond ?_ ?_
      | (with_reducible intro hc; with_reducible exact Bool.noConfusion hc)
      | (with_reducible intro hc; have hC := And.intro hC hc))
  refine t_loopX (fun (k0 : Nat) (E0 : Nat → PV) (H0 : Hp) => ∃ (i : Nat) (a : Nat), i + k0 = r ∧ a ≤ 1000 ∧ syncL (ks.drop i) i a = S ∧ E0 35 = .int .i64 (i : Int) ∧ E0 10 = .int .i64 (a : Int) ∧ H0 = hp []) (r) ?_ ?_
  intro Ng
  refine ⟨_, _, wkE_id, rowsok_nil, 0, 0, (by first | omega | rfl | assumption | (simp (maxDischargeDepth := 8) only [go_sem, Int.natCast_zero, hNE]; first | done | rfl | assumption | omega)), (by first | omega | rfl | assumption | (simp (maxDischargeDepth := 8) only [go_sem, Int.natCast_zero, hNE]; first | done | rfl | assumption | omega)), ?_, (by simp (maxDischargeDepth := 8) only [go_sem, Int.natCast_zero, hNE, List.length_append, List.length_cons, List.length_nil, Nat.zero_add]; first | done | rfl), (by simp (maxDischargeDepth := 8) only [go_sem, Int.natCast_zero, hNE, List.length_append, List.length_cons, List.length_nil, Nat.zero_add]; first | done | rfl), rfl⟩
  · exact hS
  rintro k0 E0 H0 hfr0 ⟨i, a, hk, ha, hr3, h0_35, h0_10, rfl⟩
  have e0_0 := hfr0 0 rfl; have e0_1 := hfr0 1 rfl; have e0_5 := hfr0 5 rfl; have e0_6 := hfr0 6 rfl; have e0_7 := hfr0 7 rfl; have e0_33 := hfr0 33 rfl; have e0_34 := hfr0 34 rfl
  simp (maxDischargeDepth := 8) only [go_sem, Int.natCast_zero, hNE] at e0_0 e0_1 e0_5 e0_6 e0_7 e0_33 e0_34
  clear hfr0
  by_cases hi : i < r
  · obtain ⟨y, hy, hdr⟩ := at_list (xs := ks) (i := i) (by omega)
    have hlt : (i : Int) < (ks.length : Int) := by omega
    have hw := wrap_next hi (by omega)
    have hge : (0 : Int) ≤ (i : Int) := by omega
    rw [hdr, syncL] at hr3
    by_cases hyk : y.kind = 2
    · have ek : decide (y.kind = 2) = true := by simp [hyk]
      rw [if_pos hyk] at hr3
      (have hA := And.intro e0_0 (And.intro e0_1 (And.intro e0_5 (And.intro e0_6 (And.intro e0_7 (And.intro e0_33 (And.intro e0_34 (And.intro h0_35 (And.intro h0_10 (And.intro hlt (And.intro hge (And.intro hy (ek)))))))))))); have hP := True.intro; have hNE := True.intro; have hC := True.intro; repeat' first
          | with_reducible first | refine k_seq ?_ | refine t_seq ?_ | refine t_reg ?_ | refine t_nil ?_ | refine t_skip ?_ | refine k_blk ?_ | refine t_block ?_
          | refine ae_val ?_
          | (refine ae_alloc ?_; intro la ha hn1; have hNE := And.intro hNE hn1)
          | refine ae_store ?_
          | refine a_cond ?_ ?_
          | (with_reducible intro hc; with_reducible exact Bool.noConfusion hc)
          | (with_reducible intro hc; have hC := And.intro hC hc))
      refine k_invX (k0 - 1) (by omega) ?_
      intro Ng
      refine ⟨_, _, wkE_id, rowsok_nil, i + 1, i + 1, (by first | omega | (simp only [List.length_append, List.length_cons, List.length_nil, List.length_drop, List.length_take, List.length_map]; omega)), (by first | omega | (simp only [List.length_append, List.length_cons, List.length_nil, List.length_drop, List.length_take, List.length_map]; omega)), ?_, (by simp (maxDischargeDepth := 8) only [go_sem, e0_0, e0_1, e0_5, e0_6, e0_7, e0_33, e0_34, h0_35, h0_10, hw, hNE, List.length_append, List.length_cons, List.length_nil, Nat.zero_add]; first | done | rfl), (by simp (maxDischargeDepth := 8) only [go_sem, e0_0, e0_1, e0_5, e0_6, e0_7, e0_33, e0_34, h0_35, h0_10, hw, hNE, List.length_append, List.length_cons, List.length_nil, Nat.zero_add]; first | done | rfl), rfl⟩
      exact hr3
    · have ek : decide (y.kind = 2) = false := by simp [hyk]
      rw [if_neg hyk] at hr3
      (have hA := And.intro e0_0 (And.intro e0_1 (And.intro e0_5 (And.intro e0_6 (And.intro e0_7 (And.intro e0_33 (And.intro e0_34 (And.intro h0_35 (And.intro h0_10 (And.intro hlt (And.intro hge (And.intro hy (ek)))))))))))); have hP := True.intro; have hNE := True.intro; have hC := True.intro; repeat' first
          | with_reducible first | refine k_seq ?_ | refine t_seq ?_ | refine t_reg ?_ | refine t_nil ?_ | refine t_skip ?_ | refine k_blk ?_ | refine t_block ?_
          | refine ae_val ?_
          | (refine ae_alloc ?_; intro la ha hn1; have hNE := And.intro hNE hn1)
          | refine ae_store ?_
          | refine a_cond ?_ ?_
          | (with_reducible intro hc; with_reducible exact Bool.noConfusion hc)
          | (with_reducible intro hc; have hC := And.intro hC hc))
      refine k_invX (k0 - 1) (by omega) ?_
      intro Ng
      refine ⟨_, _, wkE_id, rowsok_nil, i + 1, a, (by first | omega | (simp only [List.length_append, List.length_cons, List.length_nil, List.length_drop, List.length_take, List.length_map]; omega)), (by first | omega | (simp only [List.length_append, List.length_cons, List.length_nil, List.length_drop, List.length_take, List.length_map]; omega)), ?_, (by simp (maxDischargeDepth := 8) only [go_sem, e0_0, e0_1, e0_5, e0_6, e0_7, e0_33, e0_34, h0_35, h0_10, hw, hNE, List.length_append, List.length_cons, List.length_nil, Nat.zero_add]; first | done | rfl), (by simp (maxDischargeDepth := 8) only [go_sem, e0_0, e0_1, e0_5, e0_6, e0_7, e0_33, e0_34, h0_35, h0_10, hw, hNE, List.length_append, List.length_cons, List.length_nil, Nat.zero_add]; first | done | rfl), rfl⟩
      exact hr3
  have hlt : ((i : Int) < (ks.length : Int)) = False := eq_false (by omega)
  have haS : a = S := by
    rw [show i = ks.length by omega, List.drop_length, syncL] at hr3; exact hr3
  subst haS
  have hSx : syncL (l.take x.reached.toNat) 0 0 = a := by rw [hr2, hks]; exact hS
  have h3 : PPure Try.prog 58 [.int .i64 x.kept, .int .i64 (a : Int), .int .i64 (r : Int)] (.bool (btw x.kept a r)) := p58 _ _ _
  by_cases hke : ¬ btw x.kept a x.reached = true
  · have e0 : failF s l x = ([], 2) := by simp [failF, hz, hre, hSx, hke]
    have ek : (!btw x.kept (a : Int) (r : Int)) = true := by rw [hr] at hke; simpa using hke
    rw [e0] at hR
    subst hR
    (have hA := And.intro e0_0 (And.intro e0_1 (And.intro e0_5 (And.intro e0_6 (And.intro e0_7 (And.intro e0_33 (And.intro e0_34 (And.intro h0_35 (And.intro h0_10 (And.intro hlt (ek)))))))))); have hP := And.intro h3 (True.intro); have hNE := True.intro; have hC := True.intro; repeat' first
        | with_reducible first | refine k_seq ?_ | refine t_seq ?_ | refine t_reg ?_ | refine t_nil ?_ | refine t_ret ?_ | refine t_exit ?_ | refine k_seq_exit ?_ | refine k_seq_ret ?_ | refine k_blk_exit ?_ | refine k_invX_exit ?_
        | refine ae_val ?_
        | refine ae_callS ?_
        | refine a_cond ?_ ?_
        | (with_reducible intro hc; with_reducible exact Bool.noConfusion hc)
        | (with_reducible intro hc; have hC := And.intro hC hc))
    (first | apply pend rs36 | apply pendN rs36); (focus (simp (maxDischargeDepth := 8) only [hNE, go_sem, e0_0, e0_1, e0_5, e0_6, e0_7, e0_33, e0_34, h0_35, h0_10]; first | done | exact rfl)); (focus (simp (maxDischargeDepth := 8) only [hNE, go_sem, e0_0, e0_1, e0_5, e0_6, e0_7, e0_33, e0_34, h0_35, h0_10]; first | done | exact rfl))
  have hke := Decidable.not_not.1 hke
  have c1 : (!btw x.kept (a : Int) (r : Int)) = false := by rw [hr] at hke; rw [hke]; rfl
  have hke2 := hke
  rw [btw_true] at hke2
  obtain ⟨k, hk⟩ : ∃ k : Nat, x.kept = (k : Int) := ⟨x.kept.toNat, by omega⟩
  have hk2 : x.kept.toNat = k := by omega
  have c2 : x.kept = (k : Int) := hk
  have h6 := p77 s (l.take k) g1 (by simp; omega) (EvV_take _ _ _ g3) (fun y hy => hb y (List.mem_of_mem_take hy))
  have d1 : (0 : Int) ≤ (k : Int) := by omega
  have d2 : (k : Int) ≤ (l.length : Int) := by omega
  rw [hk] at h3 c1
  by_cases hkl : k < l.length
  · obtain ⟨N, hN, hdr⟩ := at_list (xs := l) (i := k) hkl
    have d3 : decide ((k : Int) < (l.length : Int)) = true := by simp; omega
    have d4 : (k : Int) < (l.length : Int) := by omega
    have hNE0 : nextE l x = N := by simp [nextE, hk2, hN]
    by_cases hkd : N.kind = 0
    · have hB : nextB l x = N.bytes := by simp [nextB, hNE0, hkd]
      have d5 : decide (¬ N.kind = 0) = false := by simp [hkd]
      by_cases hpt : ¬ btw x.part 0 N.bytes.length = true
      · skip
        have hq := hpt
        have ep : btw x.part 0 (N.bytes.length : Int) = false := by simpa using hpt
        have h5 : PPure Try.prog 58 [.int .i64 x.part, .int .i64 0, .int .i64 (N.bytes.length : Int)] (.bool (btw x.part 0 N.bytes.length)) := p58 _ _ _
        have e9 : (!btw x.part 0 (N.bytes.length : Int)) = true := by rw [ep]; rfl
        have e0 : failF s l x = ([], 2) := by
          simp only [failF, hz, hre, hke, hB, List.length_nil, Int.natCast_zero, hSx, ne_eq, not_true_eq_false, if_false, Bool.true_eq_false, Bool.false_eq_true]
          first | rw [if_pos ep] | (simp only [Int.natCast_zero] at ep; rw [if_pos ep])
        rw [e0] at hR
        subst hR
        (have hA := And.intro e0_0 (And.intro e0_1 (And.intro e0_5 (And.intro e0_6 (And.intro e0_7 (And.intro e0_33 (And.intro e0_34 (And.intro h0_35 (And.intro h0_10 (And.intro hlt (And.intro c1 (And.intro c2 (And.intro d1 (And.intro d2 (And.intro d3 (And.intro d4 (And.intro hN (And.intro d5 (e9)))))))))))))))))); have hP := And.intro h3 (And.intro h5 (True.intro)); have hNE := True.intro; have hC := True.intro; repeat' first
            | with_reducible first | refine k_seq ?_ | refine t_seq ?_ | refine t_reg ?_ | refine t_nil ?_ | refine t_skip ?_ | refine t_ret ?_ | refine t_exit ?_ | refine k_seq_exit ?_ | refine k_seq_ret ?_ | refine k_blk_exit ?_ | refine k_invX_exit ?_
            | refine ae_val ?_
            | refine ae_callS ?_
            | (refine ae_alloc ?_; intro la ha hn1; have hNE := And.intro hNE hn1)
            | refine ae_store ?_
            | refine a_cond ?_ ?_
            | (with_reducible intro hc; with_reducible exact Bool.noConfusion hc)
            | (with_reducible intro hc; have hC := And.intro hC hc))
        (first | apply pend rs36 | apply pendN rs36); (focus (simp (maxDischargeDepth := 8) only [hNE, go_sem, e0_0, e0_1, e0_5, e0_6, e0_7, e0_33, e0_34, h0_35, h0_10]; first | done | exact rfl)); (focus (simp (maxDischargeDepth := 8) only [hNE, go_sem, e0_0, e0_1, e0_5, e0_6, e0_7, e0_33, e0_34, h0_35, h0_10]; first | done | exact rfl))
      have hpt := Decidable.not_not.1 hpt
      have hpt2 := hpt
      rw [btw_true] at hpt2
      by_cases hp0 : 0 < x.part
      · obtain ⟨pt, hp2⟩ : ∃ pt : Nat, x.part = (pt : Int) := ⟨x.part.toNat, by omega⟩
        have hp3 : x.part.toNat = pt := by omega
        have hev := evE_cut (m := pt) (wr_at l s k N g3 hN) (by omega) hkd
        have h78 := p78 (wrF s (l.take k)) _ hev (wrF_len _ _ g1 (EvV_take _ _ _ g3)) (by
          have := hb N (List.mem_of_getElem? hN)
          show (N.bytes.take pt).length ≤ _
          simp; omega)
        have h5 : PPure Try.prog 58 [.int .i64 (pt : Int), .int .i64 0, .int .i64 (N.bytes.length : Int)] (.bool (btw pt 0 N.bytes.length)) := p58 _ _ _
        have e9 : (!btw (pt : Int) 0 (N.bytes.length : Int)) = false := by rw [← hp2, hpt]; rfl
        have ep3 : decide ((0 : Int) < (pt : Int)) = true := by simp; omega
        have c3 : (0 : Int) ≤ (pt : Int) := by omega
        have c4 : (pt : Int) ≤ (N.bytes.length : Int) := by omega
        have e0 : failF s l x = (aftF (wrF s (l.take k)) { N with bytes := N.bytes.take pt }, 0) := by
          simp only [failF, hz, hre, hke, hB, hk2, hSx, hNE0, hpt, hp3, ne_eq, not_true_eq_false, if_false, Bool.true_eq_false, Bool.false_eq_true]
          rw [if_pos hp0]
        rw [e0] at hR
        subst hR
        generalize aftF (wrF s (l.take k)) { N with bytes := N.bytes.take pt } = A at h78 ⊢
        simp only [encEv] at h78
        (have hA := And.intro e0_0 (And.intro e0_1 (And.intro e0_5 (And.intro e0_6 (And.intro e0_7 (And.intro e0_33 (And.intro e0_34 (And.intro h0_35 (And.intro h0_10 (And.intro hlt (And.intro c1 (And.intro c2 (And.intro hp2 (And.intro d1 (And.intro d2 (And.intro d3 (And.intro d4 (And.intro hN (And.intro d5 (And.intro e9 (And.intro ep3 (And.intro c3 (c4)))))))))))))))))))))); have hP := And.intro h3 (And.intro h5 (And.intro h6 (And.intro h78 (True.intro)))); have hNE := True.intro; have hC := True.intro; repeat' first
            | with_reducible first | refine k_seq ?_ | refine t_seq ?_ | refine t_reg ?_ | refine t_nil ?_ | refine t_skip ?_ | refine t_ret ?_ | refine t_exit ?_ | refine k_seq_exit ?_ | refine k_blk_exit ?_ | refine k_invX_exit ?_
            | refine ae_val ?_
            | refine ae_callS ?_
            | (refine ae_alloc ?_; intro la ha hn1; have hNE := And.intro hNE hn1)
            | refine ae_store ?_
            | refine a_cond ?_ ?_
            | (with_reducible intro hc; with_reducible exact Bool.noConfusion hc)
            | (with_reducible intro hc; have hC := And.intro hC hc))
        (first | apply pend rs36 | apply pendN rs36); (focus (simp (maxDischargeDepth := 8) only [hNE, go_sem, e0_0, e0_1, e0_5, e0_6, e0_7, e0_33, e0_34, h0_35, h0_10]; first | done | exact rfl)); (focus (simp (maxDischargeDepth := 8) only [hNE, go_sem, e0_0, e0_1, e0_5, e0_6, e0_7, e0_33, e0_34, h0_35, h0_10]; first | done | exact rfl))
      · skip
        have ep : btw x.part 0 (N.bytes.length : Int) = true := by simpa using hpt
        have h5 : PPure Try.prog 58 [.int .i64 x.part, .int .i64 0, .int .i64 (N.bytes.length : Int)] (.bool (btw x.part 0 N.bytes.length)) := p58 _ _ _
        have e9 : (!btw x.part 0 (N.bytes.length : Int)) = false := by rw [ep]; rfl
        have ep3 : decide (0 < x.part) = false := by simp; omega
        have e0 : failF s l x = (wrF s (l.take k), 0) := by
          simp only [failF, hz, hre, hke, hB, hk2, List.length_nil, Int.natCast_zero, hSx, ne_eq, not_true_eq_false, if_false, Bool.true_eq_false, Bool.false_eq_true]
          first | rw [if_neg (by rw [ep]; simp), if_neg (by omega)] | (simp only [Int.natCast_zero] at ep; rw [if_neg (by rw [ep]; simp), if_neg (by omega)])
        rw [e0] at hR
        subst hR
        (have hA := And.intro e0_0 (And.intro e0_1 (And.intro e0_5 (And.intro e0_6 (And.intro e0_7 (And.intro e0_33 (And.intro e0_34 (And.intro h0_35 (And.intro h0_10 (And.intro hlt (And.intro c1 (And.intro c2 (And.intro d1 (And.intro d2 (And.intro d3 (And.intro d4 (And.intro hN (And.intro d5 (And.intro e9 (ep3))))))))))))))))))); have hP := And.intro h3 (And.intro h5 (And.intro h6 (True.intro))); have hNE := True.intro; have hC := True.intro; repeat' first
            | with_reducible first | refine k_seq ?_ | refine t_seq ?_ | refine t_reg ?_ | refine t_nil ?_ | refine t_skip ?_ | refine t_ret ?_ | refine t_exit ?_ | refine k_seq_exit ?_ | refine k_blk_exit ?_ | refine k_invX_exit ?_
            | refine ae_val ?_
            | refine ae_callS ?_
            | (refine ae_alloc ?_; intro la ha hn1; have hNE := And.intro hNE hn1)
            | refine ae_store ?_
            | refine a_cond ?_ ?_
            | (with_reducible intro hc; with_reducible exact Bool.noConfusion hc)
            | (with_reducible intro hc; have hC := And.intro hC hc))
        (first | apply pend rs36 | apply pendN rs36); (focus (simp (maxDischargeDepth := 8) only [hNE, go_sem, e0_0, e0_1, e0_5, e0_6, e0_7, e0_33, e0_34, h0_35, h0_10]; first | done | exact rfl)); (focus (simp (maxDischargeDepth := 8) only [hNE, go_sem, e0_0, e0_1, e0_5, e0_6, e0_7, e0_33, e0_34, h0_35, h0_10]; first | done | exact rfl))
    · have hB : nextB l x = [] := by simp [nextB, hNE0, hkd]
      have d5 : decide (¬ N.kind = 0) = true := by simp [hkd]
      by_cases hpt : ¬ btw x.part 0 (0 : Nat) = true
      · skip
        have hq := hpt
        have ep : btw x.part 0 ((0 : Nat) : Int) = false := by simpa using hpt
        have h5 : PPure Try.prog 58 [.int .i64 x.part, .int .i64 0, .int .i64 ((0 : Nat) : Int)] (.bool (btw x.part 0 (0 : Nat))) := p58 _ _ _
        have e9 : (!btw x.part 0 ((0 : Nat) : Int)) = true := by rw [ep]; rfl
        have e0 : failF s l x = ([], 2) := by
          simp only [failF, hz, hre, hke, hB, List.length_nil, Int.natCast_zero, hSx, ne_eq, not_true_eq_false, if_false, Bool.true_eq_false, Bool.false_eq_true]
          first | rw [if_pos ep] | (simp only [Int.natCast_zero] at ep; rw [if_pos ep])
        rw [e0] at hR
        subst hR
        (have hA := And.intro e0_0 (And.intro e0_1 (And.intro e0_5 (And.intro e0_6 (And.intro e0_7 (And.intro e0_33 (And.intro e0_34 (And.intro h0_35 (And.intro h0_10 (And.intro hlt (And.intro c1 (And.intro c2 (And.intro d1 (And.intro d2 (And.intro d3 (And.intro d4 (And.intro hN (And.intro d5 (e9)))))))))))))))))); have hP := And.intro h3 (And.intro h5 (True.intro)); have hNE := True.intro; have hC := True.intro; repeat' first
            | with_reducible first | refine k_seq ?_ | refine t_seq ?_ | refine t_reg ?_ | refine t_nil ?_ | refine t_skip ?_ | refine t_ret ?_ | refine t_exit ?_ | refine k_seq_exit ?_ | refine k_seq_ret ?_ | refine k_blk_exit ?_ | refine k_invX_exit ?_
            | refine ae_val ?_
            | refine ae_callS ?_
            | (refine ae_alloc ?_; intro la ha hn1; have hNE := And.intro hNE hn1)
            | refine ae_store ?_
            | refine a_cond ?_ ?_
            | (with_reducible intro hc; with_reducible exact Bool.noConfusion hc)
            | (with_reducible intro hc; have hC := And.intro hC hc))
        (first | apply pend rs36 | apply pendN rs36); (focus (simp (maxDischargeDepth := 8) only [hNE, go_sem, e0_0, e0_1, e0_5, e0_6, e0_7, e0_33, e0_34, h0_35, h0_10]; first | done | exact rfl)); (focus (simp (maxDischargeDepth := 8) only [hNE, go_sem, e0_0, e0_1, e0_5, e0_6, e0_7, e0_33, e0_34, h0_35, h0_10]; first | done | exact rfl))
      have hpt := Decidable.not_not.1 hpt
      have hpt2 := hpt
      rw [btw_true] at hpt2
      have ep : btw x.part 0 ((0 : Nat) : Int) = true := by simpa using hpt
      have h5 : PPure Try.prog 58 [.int .i64 x.part, .int .i64 0, .int .i64 ((0 : Nat) : Int)] (.bool (btw x.part 0 (0 : Nat))) := p58 _ _ _
      have e9 : (!btw x.part 0 ((0 : Nat) : Int)) = false := by rw [ep]; rfl
      have ep3 : decide (0 < x.part) = false := by simp; omega
      have e0 : failF s l x = (wrF s (l.take k), 0) := by
        simp only [failF, hz, hre, hke, hB, hk2, List.length_nil, Int.natCast_zero, hSx, ne_eq, not_true_eq_false, if_false, Bool.true_eq_false, Bool.false_eq_true]
        first | rw [if_neg (by rw [ep]; simp), if_neg (by omega)] | (simp only [Int.natCast_zero] at ep; rw [if_neg (by rw [ep]; simp), if_neg (by omega)])
      rw [e0] at hR
      subst hR
      (have hA := And.intro e0_0 (And.intro e0_1 (And.intro e0_5 (And.intro e0_6 (And.intro e0_7 (And.intro e0_33 (And.intro e0_34 (And.intro h0_35 (And.intro h0_10 (And.intro hlt (And.intro c1 (And.intro c2 (And.intro d1 (And.intro d2 (And.intro d3 (And.intro d4 (And.intro hN (And.intro d5 (And.intro e9 (ep3))))))))))))))))))); have hP := And.intro h3 (And.intro h5 (And.intro h6 (True.intro))); have hNE := True.intro; have hC := True.intro; repeat' first
          | with_reducible first | refine k_seq ?_ | refine t_seq ?_ | refine t_reg ?_ | refine t_nil ?_ | refine t_skip ?_ | refine t_ret ?_ | refine t_exit ?_ | refine k_seq_exit ?_ | refine k_blk_exit ?_ | refine k_invX_exit ?_
          | refine ae_val ?_
          | refine ae_callS ?_
          | (refine ae_alloc ?_; intro la ha hn1; have hNE := And.intro hNE hn1)
          | refine ae_store ?_
          | refine a_cond ?_ ?_
          | (with_reducible intro hc; with_reducible exact Bool.noConfusion hc)
          | (with_reducible intro hc; have hC := And.intro hC hc))
      (first | apply pend rs36 | apply pendN rs36); (focus (simp (maxDischargeDepth := 8) only [hNE, go_sem, e0_0, e0_1, e0_5, e0_6, e0_7, e0_33, e0_34, h0_35, h0_10]; first | done | exact rfl)); (focus (simp (maxDischargeDepth := 8) only [hNE, go_sem, e0_0, e0_1, e0_5, e0_6, e0_7, e0_33, e0_34, h0_35, h0_10]; first | done | exact rfl))
  · have d3 : decide ((k : Int) < (l.length : Int)) = false := by simp; omega
    have hB : nextB l x = [] := by simp [nextB, nextE, hk2, List.getElem?_eq_none (by omega : l.length ≤ k)]
    by_cases hpt : ¬ btw x.part 0 (0 : Nat) = true
    · skip
      have hq := hpt
      have ep : btw x.part 0 ((0 : Nat) : Int) = false := by simpa using hpt
      have h5 : PPure Try.prog 58 [.int .i64 x.part, .int .i64 0, .int .i64 ((0 : Nat) : Int)] (.bool (btw x.part 0 (0 : Nat))) := p58 _ _ _
      have e9 : (!btw x.part 0 ((0 : Nat) : Int)) = true := by rw [ep]; rfl
      have e0 : failF s l x = ([], 2) := by
        simp only [failF, hz, hre, hke, hB, List.length_nil, Int.natCast_zero, hSx, ne_eq, not_true_eq_false, if_false, Bool.true_eq_false, Bool.false_eq_true]
        first | rw [if_pos ep] | (simp only [Int.natCast_zero] at ep; rw [if_pos ep])
      rw [e0] at hR
      subst hR
      (have hA := And.intro e0_0 (And.intro e0_1 (And.intro e0_5 (And.intro e0_6 (And.intro e0_7 (And.intro e0_33 (And.intro e0_34 (And.intro h0_35 (And.intro h0_10 (And.intro hlt (And.intro c1 (And.intro c2 (And.intro d1 (And.intro d2 (And.intro d3 (e9))))))))))))))); have hP := And.intro h3 (And.intro h5 (True.intro)); have hNE := True.intro; have hC := True.intro; repeat' first
          | with_reducible first | refine k_seq ?_ | refine t_seq ?_ | refine t_reg ?_ | refine t_nil ?_ | refine t_skip ?_ | refine t_ret ?_ | refine t_exit ?_ | refine k_seq_exit ?_ | refine k_seq_ret ?_ | refine k_blk_exit ?_ | refine k_invX_exit ?_
          | refine ae_val ?_
          | refine ae_callS ?_
          | (refine ae_alloc ?_; intro la ha hn1; have hNE := And.intro hNE hn1)
          | refine ae_store ?_
          | refine a_cond ?_ ?_
          | (with_reducible intro hc; with_reducible exact Bool.noConfusion hc)
          | (with_reducible intro hc; have hC := And.intro hC hc))
      (first | apply pend rs36 | apply pendN rs36); (focus (simp (maxDischargeDepth := 8) only [hNE, go_sem, e0_0, e0_1, e0_5, e0_6, e0_7, e0_33, e0_34, h0_35, h0_10]; first | done | exact rfl)); (focus (simp (maxDischargeDepth := 8) only [hNE, go_sem, e0_0, e0_1, e0_5, e0_6, e0_7, e0_33, e0_34, h0_35, h0_10]; first | done | exact rfl))
    have hpt := Decidable.not_not.1 hpt
    have hpt2 := hpt
    rw [btw_true] at hpt2
    have ep : btw x.part 0 ((0 : Nat) : Int) = true := by simpa using hpt
    have h5 : PPure Try.prog 58 [.int .i64 x.part, .int .i64 0, .int .i64 ((0 : Nat) : Int)] (.bool (btw x.part 0 (0 : Nat))) := p58 _ _ _
    have e9 : (!btw x.part 0 ((0 : Nat) : Int)) = false := by rw [ep]; rfl
    have ep3 : decide (0 < x.part) = false := by simp; omega
    have e0 : failF s l x = (wrF s (l.take k), 0) := by
      simp only [failF, hz, hre, hke, hB, hk2, List.length_nil, Int.natCast_zero, hSx, ne_eq, not_true_eq_false, if_false, Bool.true_eq_false, Bool.false_eq_true]
      first | rw [if_neg (by rw [ep]; simp), if_neg (by omega)] | (simp only [Int.natCast_zero] at ep; rw [if_neg (by rw [ep]; simp), if_neg (by omega)])
    rw [e0] at hR
    subst hR
    (have hA := And.intro e0_0 (And.intro e0_1 (And.intro e0_5 (And.intro e0_6 (And.intro e0_7 (And.intro e0_33 (And.intro e0_34 (And.intro h0_35 (And.intro h0_10 (And.intro hlt (And.intro c1 (And.intro c2 (And.intro d1 (And.intro d2 (And.intro d3 (And.intro e9 (ep3)))))))))))))))); have hP := And.intro h3 (And.intro h5 (And.intro h6 (True.intro))); have hNE := True.intro; have hC := True.intro; repeat' first
        | with_reducible first | refine k_seq ?_ | refine t_seq ?_ | refine t_reg ?_ | refine t_nil ?_ | refine t_skip ?_ | refine t_ret ?_ | refine t_exit ?_ | refine k_seq_exit ?_ | refine k_blk_exit ?_ | refine k_invX_exit ?_
        | refine ae_val ?_
        | refine ae_callS ?_
        | (refine ae_alloc ?_; intro la ha hn1; have hNE := And.intro hNE hn1)
        | refine ae_store ?_
        | refine a_cond ?_ ?_
        | (with_reducible intro hc; with_reducible exact Bool.noConfusion hc)
        | (with_reducible intro hc; have hC := And.intro hC hc))
    (first | apply pend rs36 | apply pendN rs36); (focus (simp (maxDischargeDepth := 8) only [hNE, go_sem, e0_0, e0_1, e0_5, e0_6, e0_7, e0_33, e0_34, h0_35, h0_10]; first | done | exact rfl)); (focus (simp (maxDischargeDepth := 8) only [hNE, go_sem, e0_0, e0_1, e0_5, e0_6, e0_7, e0_33, e0_34, h0_35, h0_10]; first | done | exact rfl))
end Go.Proofs.Ythdgdngdfijfhaa
namespace Go.Proofs.Ythdgdngdfijfhaa
open Go.RowKit Go.Proofs
set_option linter.unusedVariables false
set_option linter.unusedSimpArgs false
attribute [local irreducible] PPure CallN Tops TopsDm T
theorem not_lt_or (n lo hi : Int) : (!(decide (n < lo) || decide (hi < n))) = btw n lo hi := by
  unfold btw
  rw [Bool.not_or, ← decide_not, ← decide_not]
  congr 1 <;> (simp only [decide_eq_decide]; omega)
theorem p53 (n lo hi : Int) : PPure Try.prog 53 [.int .i64 n, .int .i64 lo, .int .i64 hi] (.bool (btw n lo hi)) := by
  have h := not_lt_or n lo hi
  rw [← h]
  (refine ppure_of_T ok53 (by simp only [List.length_cons, List.length_nil]; decide) ?_; refine t_seq ?_)
  (have hA := True.intro; have hP := True.intro; have hNE := True.intro; have hC := True.intro; repeat' first
      | with_reducible first | refine k_seq ?_ | refine t_seq ?_ | refine t_reg ?_ | refine t_nil ?_ | refine t_ret ?_
      | refine ae_val ?_
      | refine ae_gval ?_)
  (first | apply pend rs53 | apply pendN rs53); (focus (simp only [go_sem]; first | done | exact rfl)); (focus (simp only [go_sem]; first | done | exact rfl))
end Go.Proofs.Ythdgdngdfijfhaa
namespace Go.Proofs.Ythdgdngdfijfhaa
open Go.RowKit Go.Proofs
set_option linter.unusedVariables false
set_option linter.unusedSimpArgs false
attribute [local irreducible] PPure CallN Tops TopsDm T
theorem orE3 (b c d : Bool) (x y z : Int) (hx : x ≠ 0) (hy : y ≠ 0) (hz : z ≠ 0) : orE [rfs b x, rfs c y, rfs d z] = if b = true then x else if c = true then y else if d = true then z else 0 := by
  cases b <;> cases c <;> cases d <;> simp [orE, rfs, hx, hy, hz]
end Go.Proofs.Ythdgdngdfijfhaa
namespace Go.Proofs.Ythdgdngdfijfhaa
open Go.RowKit Go.Proofs
set_option linter.unusedVariables false
set_option linter.unusedSimpArgs false
attribute [local irreducible] PPure CallN Tops TopsDm T
attribute [local go_sem] Int.toNat_natCast List.length_map List.length_replicate Nat.zero_add in
theorem p34 (l : List Ev) (hl : l.length ≤ 1000000) : PPure Try.prog 34 [.list .any (l.map encEv)] (.list .any (l.map encEv)) := by
  by_cases h0 : l = []
  · subst h0
    (refine ppure_of_T ok34 (by simp only [List.length_cons, List.length_nil]; decide) ?_; refine t_seq ?_)
    (have hA := True.intro; have hP := True.intro; have hNE := True.intro; have hC := True.intro; repeat' first
        | with_reducible first | refine k_seq ?_ | refine t_seq ?_ | refine t_reg ?_ | refine t_nil ?_ | refine t_ret ?_
        | refine ae_val ?_
        | ((with_reducible apply te_appendE); (with_reducible exact app_67; with_reducible exact c_71); (focus (simp (maxDischargeDepth := 8) only [go_sem, hNE, hA]; first | done | exact rfl)); (focus (simp (maxDischargeDepth := 8) only [go_sem, hNE, hA]; first | done | exact rfl)); exact rfl; (focus (first | exact rfl | (simp (maxDischargeDepth := 8) only [go_sem, hNE, hA]; done))); (focus (simp (maxDischargeDepth := 8) only [go_sem, hNE, hA]; done)); (focus (simp (maxDischargeDepth := 8) only [go_sem, hNE, hA, roomB, List.length_take, List.length_append]; first | done | omega))))
    (first | apply pend rs34 | apply pendN rs34); (focus (simp (maxDischargeDepth := 8) only [hNE, go_sem]; first | done | exact rfl)); (focus (simp (maxDischargeDepth := 8) only [hNE, go_sem]; first | done | exact rfl))
  · have he : (l.map encEv).isEmpty = false := by simpa using h0
    have hn : ¬ l.map encEv = [] := by simpa using h0
    have hb : l.length * 100 ≤ 140737488355328 := by omega
    (refine ppure_of_T ok34 (by simp only [List.length_cons, List.length_nil]; decide) ?_; refine t_seq ?_)
    (have hA := And.intro he (hn); have hP := True.intro; have hNE := True.intro; have hC := True.intro; repeat' first
        | with_reducible first | refine k_seq ?_ | refine t_seq ?_ | refine t_reg ?_ | refine t_nil ?_ | refine t_ret ?_
        | refine ae_val ?_
        | ((with_reducible apply te_appendL); (with_reducible exact app_67; with_reducible exact c_71); (focus (simp (maxDischargeDepth := 8) only [go_sem, hNE, hA]; first | done | exact rfl)); (focus (simp (maxDischargeDepth := 8) only [go_sem, hNE, hA]; first | done | exact rfl)); exact rfl; (focus (first | exact rfl | (simp (maxDischargeDepth := 8) only [go_sem, hNE, hA]; done))); (focus (simp (maxDischargeDepth := 8) only [go_sem, hNE, hA]; done)); (focus (simp (maxDischargeDepth := 8) only [go_sem, hNE, hA]; done)); (focus (simp (maxDischargeDepth := 8) only [go_sem, hNE, hA, roomB, List.length_take, List.length_append]; first | done | omega)); (intro la ha hn1; have hNE := And.intro hNE hn1)))
    (first | apply pend rs34 | apply pendN rs34); (focus (simp (maxDischargeDepth := 8) only [hNE, go_sem]; first | done | exact rfl)); (focus (simp (maxDischargeDepth := 8) only [hNE, go_sem]; first | done | exact rfl))
/-- Texts that are the same, so far. -/
def sameT (a b : List (List UInt8)) (i : Nat) : Bool := decide ((a.length : Int) = (b.length : Int)) && (a.take i == b.take i)
theorem sameT_next {a b : List (List UInt8)} {i : Nat} (h : sameT a b i = false) : sameT a b (i + 1) = false := by
  unfold sameT at h ⊢
  cases hd : decide ((a.length : Int) = (b.length : Int)) with
  | false => rfl
  | true =>
    rw [hd] at h
    rw [Bool.true_and] at h ⊢
    simp only [beq_eq_false_iff_ne, ne_eq] at h ⊢
    intro e
    apply h
    have := congrArg (List.take i) e
    simpa [List.take_take, Nat.min_eq_left (Nat.le_succ i)] using this
theorem sameT_at {a b : List (List UInt8)} {i : Nat} {x y : List UInt8} (h : sameT a b i = true) (hx : a[i]? = some x) (hy : b[i]? = some y) : sameT a b (i + 1) = (x == y) := by
  unfold sameT at h ⊢
  simp only [Bool.and_eq_true, beq_iff_eq] at h
  rw [h.1, Bool.true_and, List.take_add_one, List.take_add_one, hx, hy, h.2]
  cases hb : (x == y) with
  | true => have := eq_of_beq hb; subst this; simp
  | false => simp only [beq_eq_false_iff_ne, ne_eq] at hb ⊢; intro e; apply hb; simpa using e
theorem sameT_end {a b : List (List UInt8)} : sameT a b a.length = (a == b) := by
  unfold sameT
  by_cases h : a.length = b.length
  · rw [decide_eq_true (by omega), Bool.true_and, List.take_length, h, List.take_length]
  · rw [decide_eq_false (by omega), Bool.false_and]
    symm
    simp only [beq_eq_false_iff_ne, ne_eq]
    exact fun e => h (by rw [e])
attribute [local go_sem] encS Int.toNat_natCast List.getElem?_map Option.map_some in
theorem p47 (a b : List (List UInt8)) (hl : a.length ≤ 1000) : PPure Try.prog 47 [.list .any (a.map encS), .list .any (b.map encS)] (.bool (a == b)) := by
  have h0 : sameT a b 0 = decide ((a.length : Int) = (b.length : Int)) := by simp [sameT]
  have hend := sameT_end (a := a) (b := b)
  (refine ppure_of_T ok47 (by simp only [List.length_cons, List.length_nil]; decide) ?_; refine t_seq ?_)
  (have hA := True.intro; have hP := True.intro; have hNE := True.intro; have hC := True.intro; repeat' first
      | with_reducible first | refine k_seq ?_ | refine t_seq ?_ | refine t_reg ?_ | refine t_nil ?_ | refine t_block ?_
      | refine ae_val ?_)
  refine t_loopX (fun (k0 : Nat) (E0 : Nat → PV) (H0 : Hp) => ∃ (i : Nat), i + k0 = a.length ∧ E0 5 = .bool (sameT a b i) ∧ E0 14 = .int .i64 (i : Int) ∧ H0 = hp []) (a.length) ?_ ?_
  intro Ng
  refine ⟨_, _, wkE_id, rowsok_nil, 0, (by first | omega | rfl | assumption | (simp (maxDischargeDepth := 8) only [go_sem, cast0, h0, hNE]; first | done | rfl | assumption | omega)), (by simp (maxDischargeDepth := 8) only [go_sem, cast0, h0, hNE, List.length_append, List.length_cons, List.length_nil, Nat.zero_add]; first | done | rfl), (by simp (maxDischargeDepth := 8) only [go_sem, cast0, h0, hNE, List.length_append, List.length_cons, List.length_nil, Nat.zero_add]; first | done | rfl), rfl⟩
  rintro k0 E0 H0 hfr0 ⟨i, hk, h0_5, h0_14, rfl⟩
  have e0_0 := hfr0 0 rfl; have e0_1 := hfr0 1 rfl; have e0_4 := hfr0 4 rfl; have e0_13 := hfr0 13 rfl
  simp (maxDischargeDepth := 8) only [go_sem, cast0, h0, hNE] at e0_0 e0_1 e0_4 e0_13
  clear hfr0
  by_cases hi : i < a.length
  · obtain ⟨x, hx, hdr⟩ := at_list hi
    have hlt := lt_int hi
    have hw := wrap_next hi hl
    have hge : (0 : Int) ≤ (i : Int) := by omega
    cases hst : sameT a b i with
    | false =>
      have hn := sameT_next hst
      (have hA := And.intro e0_0 (And.intro e0_1 (And.intro e0_4 (And.intro e0_13 (And.intro h0_5 (And.intro h0_14 (And.intro hlt (And.intro hge (And.intro hx (hst))))))))); have hP := True.intro; have hNE := True.intro; have hC := True.intro; repeat' first
          | ((with_reducible apply te_drwA); (focus (simp (maxDischargeDepth := 8) only [effFlA, List.map_cons, List.map_nil]; exact rfl)); (focus decide +kernel))
          | with_reducible first | refine k_seq ?_ | refine t_seq ?_ | refine t_reg ?_ | refine t_nil ?_ | refine t_skip ?_ | refine k_blk ?_ | refine t_block ?_ | refine m_nil ?_
          | refine ae_val ?_
          | refine be_val ?_
          | refine be_gval ?_
          | refine be_gno ?_
          | refine a_cond ?_ ?_
          | (with_reducible intro hc; with_reducible exact Bool.noConfusion hc)
          | (with_reducible intro hc; have hC := And.intro hC hc))
      refine k_invX (k0 - 1) (by omega) ?_
      intro Ng
      refine ⟨_, _, wkE_id, rowsok_nil, i + 1, (by first | omega | (simp only [List.length_append, List.length_cons, List.length_nil, List.length_drop, List.length_take, List.length_map]; omega)), (by simp (maxDischargeDepth := 8) only [go_sem, e0_0, e0_1, e0_4, e0_13, h0_5, h0_14, hw, hn, hNE, List.length_append, List.length_cons, List.length_nil, Nat.zero_add]; first | done | rfl), (by simp (maxDischargeDepth := 8) only [go_sem, e0_0, e0_1, e0_4, e0_13, h0_5, h0_14, hw, hn, hNE, List.length_append, List.length_cons, List.length_nil, Nat.zero_add]; first | done | rfl), rfl⟩
    | true =>
      have hbl : (a.length : Int) = (b.length : Int) := by
        unfold sameT at hst; simp at hst; omega
      obtain ⟨y, hy, hdr2⟩ := at_list (xs := b) (i := i) (by omega)
      have hlt2 : (i : Int) < (b.length : Int) := by omega
      have hn := sameT_at hst hx hy
      (have hA := And.intro e0_0 (And.intro e0_1 (And.intro e0_4 (And.intro e0_13 (And.intro h0_5 (And.intro h0_14 (And.intro hlt (And.intro hge (And.intro hx (And.intro hst (And.intro hy (hlt2))))))))))); have hP := True.intro; have hNE := True.intro; have hC := True.intro; repeat' first
          | ((with_reducible apply te_drwA); (focus (simp (maxDischargeDepth := 8) only [effFlA, List.map_cons, List.map_nil]; exact rfl)); (focus decide +kernel))
          | with_reducible first | refine k_seq ?_ | refine t_seq ?_ | refine t_reg ?_ | refine t_nil ?_ | refine t_skip ?_ | refine k_blk ?_ | refine t_block ?_ | refine m_nil ?_
          | refine ae_val ?_
          | refine be_val ?_
          | refine be_gval ?_
          | refine a_cond ?_ ?_
          | (with_reducible intro hc; with_reducible exact Bool.noConfusion hc)
          | (with_reducible intro hc; have hC := And.intro hC hc))
      refine k_invX (k0 - 1) (by omega) ?_
      intro Ng
      refine ⟨_, _, wkE_id, rowsok_nil, i + 1, (by first | omega | (simp only [List.length_append, List.length_cons, List.length_nil, List.length_drop, List.length_take, List.length_map]; omega)), (by simp (maxDischargeDepth := 8) only [go_sem, e0_0, e0_1, e0_4, e0_13, h0_5, h0_14, hw, hn, hNE, List.length_append, List.length_cons, List.length_nil, Nat.zero_add]; first | done | rfl), (by simp (maxDischargeDepth := 8) only [go_sem, e0_0, e0_1, e0_4, e0_13, h0_5, h0_14, hw, hn, hNE, List.length_append, List.length_cons, List.length_nil, Nat.zero_add]; first | done | rfl), rfl⟩
  · have hlt := nlt_int hi
    have hil : i = a.length := by omega
    subst hil
    (have hA := And.intro e0_0 (And.intro e0_1 (And.intro e0_4 (And.intro e0_13 (And.intro h0_5 (And.intro h0_14 (hlt)))))); have hP := True.intro; have hNE := True.intro; have hC := True.intro; repeat' first
        | with_reducible first | refine k_seq ?_ | refine t_seq ?_ | refine t_reg ?_ | refine t_nil ?_ | refine t_ret ?_ | refine t_exit ?_ | refine k_seq_exit ?_ | refine k_blk_exit ?_ | refine k_invX_exit ?_
        | refine ae_val ?_
        | refine a_cond ?_ ?_
        | (with_reducible intro hc; with_reducible exact Bool.noConfusion hc)
        | (with_reducible intro hc; have hC := And.intro hC hc))
    (first | apply pend rs47 | apply pendN rs47); (focus (simp only [go_sem, e0_0, e0_1, e0_4, e0_13, h0_5, h0_14, hend]; first | done | exact rfl)); (focus (simp only [go_sem, e0_0, e0_1, e0_4, e0_13, h0_5, h0_14, hend]; first | done | exact rfl))
theorem e_59 : flatEq Try.prog 59 = some [.i .i64, .s, .i .i64] := by kernel_rfl
theorem e_71 : flatEq Try.prog 71 = some [.i .i64, .i .i64, .s] := by kernel_rfl
attribute [go_sem] e_59 e_71 PV.ck cellsEq
end Go.Proofs.Ythdgdngdfijfhaa
namespace Go.Proofs.Ythdgdngdfijfhaa
open Go.RowKit Go.Proofs
set_option linter.unusedVariables false
set_option linter.unusedSimpArgs false
attribute [local irreducible] PPure CallN Tops TopsDm T
def sizeR (n : Nat) (x : Ev) : Nat := if (sizeF n x).2 = 0 then sizeN n x else 0
theorem evE_if (n : Nat) (x : Ev) : evE n x = if (!btw x.kind 0 2) = true then 15 else if ev2B x = true then 3 else if (!btw x.pos 0 n) = true then 2 else 0 := by
  unfold evE ev1 ev2 ev3
  exact orE3 _ _ _ _ _ _ (by decide) (by decide) (by decide)
attribute [local go_sem] cast0 pvMinMax Int.add_zero List.length_nil in
set_option maxHeartbeats 2000000 in
theorem p79 (n : Nat) (x : Ev) (hn : n ≤ 20000) (hb : x.bytes.length ≤ 140737488355328) : PPure Try.prog 79 [.int .i64 (n : Int), encEv x] (.tup [.int .i64 (sizeR n x : Int), .int .i64 (sizeF n x).2]) := by
  have h1 := p53 x.kind 0 2
  have h2 := p53 x.pos 0 n
  have hif := evE_if n x
  cases hk : btw x.kind 0 2 with
  | false =>
    rw [hk] at h1 hif
    have e0 : evE n x = 15 := by rw [hif]; rfl
    have e1 : sizeF n x = (0, 15) := by rw [sizeF, if_neg (by rw [e0]; decide), e0]
    have e2 : sizeR n x = 0 := by rw [sizeR, e1]; rfl
    rw [e1, e2]
    simp only [encEv]
    (refine ppure_of_T ok79 (by simp only [List.length_cons, List.length_nil]; decide) ?_; refine t_seq ?_)
    (have hA := True.intro; have hP := And.intro h1 (True.intro); have hNE := True.intro; have hC := True.intro; repeat' first
        | with_reducible first | refine k_seq ?_ | refine t_seq ?_ | refine t_reg ?_ | refine t_nil ?_ | refine t_ret ?_ | refine k_seq_ret ?_
        | refine ae_val ?_
        | refine ae_callS ?_
        | refine ae_box ?_
        | refine a_cond ?_ ?_
        | (with_reducible intro hc; with_reducible exact Bool.noConfusion hc)
        | (with_reducible intro hc; have hC := And.intro hC hc))
    (first | apply pend rs79 | apply pendN rs79); (focus (simp (maxDischargeDepth := 8) only [hNE, go_sem, cast0]; first | done | exact rfl)); (focus (simp (maxDischargeDepth := 8) only [hNE, go_sem, cast0]; first | done | exact rfl))
  | true =>
    rw [hk] at h1 hif
    rw [if_neg (by decide)] at hif
    have hkk := hk
    rw [btw_true] at hkk
    have hk3 : x.kind = 0 ∨ x.kind = 1 ∨ x.kind = 2 := by omega
    cases h2b : ev2B x with
    | true =>
      rw [h2b, if_pos rfl] at hif
      have e1 : sizeF n x = (0, 3) := by rw [sizeF, if_neg (by rw [hif]; decide), hif]
      have e2 : sizeR n x = 0 := by rw [sizeR, e1]; rfl
      rw [e1, e2]
      unfold ev2B at h2b
      rcases hk3 with hk0 | hk0 | hk0
      · have hbb : (x.bytes == []) = true := by simpa [hk0] using h2b
        simp only [encEv, hk0] at h1 ⊢
        (refine ppure_of_T ok79 (by simp only [List.length_cons, List.length_nil]; decide) ?_; refine t_seq ?_)
        (have hA := hbb; have hP := And.intro h1 (True.intro); have hNE := True.intro; have hC := True.intro; repeat' first
            | with_reducible first | refine k_seq ?_ | refine t_seq ?_ | refine t_reg ?_ | refine t_nil ?_ | refine t_skip ?_ | refine t_ret ?_ | refine k_seq_ret ?_
            | refine ae_val ?_
            | refine ae_callS ?_
            | refine ae_gval ?_
            | refine ae_gskip ?_
            | refine ae_box ?_
            | refine a_cond ?_ ?_
            | (with_reducible intro hc; with_reducible exact Bool.noConfusion hc)
            | (with_reducible intro hc; have hC := And.intro hC hc))
        (first | apply pend rs79 | apply pendN rs79); (focus (simp (maxDischargeDepth := 8) only [hNE, go_sem, cast0]; first | done | exact rfl)); (focus (simp (maxDischargeDepth := 8) only [hNE, go_sem, cast0]; first | done | exact rfl))
      · have hbb : (x.bytes == []) = false := by simpa [hk0] using h2b
        simp only [encEv, hk0] at h1 ⊢
        (refine ppure_of_T ok79 (by simp only [List.length_cons, List.length_nil]; decide) ?_; refine t_seq ?_)
        (have hA := hbb; have hP := And.intro h1 (True.intro); have hNE := True.intro; have hC := True.intro; repeat' first
            | with_reducible first | refine k_seq ?_ | refine t_seq ?_ | refine t_reg ?_ | refine t_nil ?_ | refine t_skip ?_ | refine t_ret ?_ | refine k_seq_ret ?_
            | refine ae_val ?_
            | refine ae_callS ?_
            | refine ae_gval ?_
            | refine ae_gskip ?_
            | refine ae_box ?_
            | refine a_cond ?_ ?_
            | (with_reducible intro hc; with_reducible exact Bool.noConfusion hc)
            | (with_reducible intro hc; have hC := And.intro hC hc))
        (first | apply pend rs79 | apply pendN rs79); (focus (simp (maxDischargeDepth := 8) only [hNE, go_sem, cast0]; first | done | exact rfl)); (focus (simp (maxDischargeDepth := 8) only [hNE, go_sem, cast0]; first | done | exact rfl))
      · cases hbb : (x.bytes == []) with
        | false =>
          simp only [encEv, hk0] at h1 ⊢
          (refine ppure_of_T ok79 (by simp only [List.length_cons, List.length_nil]; decide) ?_; refine t_seq ?_)
          (have hA := hbb; have hP := And.intro h1 (True.intro); have hNE := True.intro; have hC := True.intro; repeat' first
              | with_reducible first | refine k_seq ?_ | refine t_seq ?_ | refine t_reg ?_ | refine t_nil ?_ | refine t_skip ?_ | refine t_ret ?_ | refine k_seq_ret ?_
              | refine ae_val ?_
              | refine ae_callS ?_
              | refine ae_gval ?_
              | refine ae_gskip ?_
              | refine ae_box ?_
              | refine a_cond ?_ ?_
              | (with_reducible intro hc; with_reducible exact Bool.noConfusion hc)
              | (with_reducible intro hc; have hC := And.intro hC hc))
          (first | apply pend rs79 | apply pendN rs79); (focus (simp (maxDischargeDepth := 8) only [hNE, go_sem, cast0]; first | done | exact rfl)); (focus (simp (maxDischargeDepth := 8) only [hNE, go_sem, cast0]; first | done | exact rfl))
        | true =>
          have hp : decide (¬ x.pos = 0) = true := by simpa [hk0, hbb] using h2b
          simp only [encEv, hk0] at h1 ⊢
          (refine ppure_of_T ok79 (by simp only [List.length_cons, List.length_nil]; decide) ?_; refine t_seq ?_)
          (have hA := And.intro hbb (hp); have hP := And.intro h1 (True.intro); have hNE := True.intro; have hC := True.intro; repeat' first
              | with_reducible first | refine k_seq ?_ | refine t_seq ?_ | refine t_reg ?_ | refine t_nil ?_ | refine t_skip ?_ | refine t_ret ?_ | refine k_seq_ret ?_
              | refine ae_val ?_
              | refine ae_callS ?_
              | refine ae_gval ?_
              | refine ae_box ?_
              | refine a_cond ?_ ?_
              | (with_reducible intro hc; with_reducible exact Bool.noConfusion hc)
              | (with_reducible intro hc; have hC := And.intro hC hc))
          (first | apply pend rs79 | apply pendN rs79); (focus (simp (maxDischargeDepth := 8) only [hNE, go_sem, cast0]; first | done | exact rfl)); (focus (simp (maxDischargeDepth := 8) only [hNE, go_sem, cast0]; first | done | exact rfl))
    | false =>
      rw [h2b, if_neg (by decide)] at hif
      unfold ev2B at h2b
      cases hpb : btw x.pos 0 n with
      | false =>
        rw [hpb] at h2 hif
        have e0 : evE n x = 2 := by rw [hif]; rfl
        have e1 : sizeF n x = (0, 2) := by rw [sizeF, if_neg (by rw [e0]; decide), e0]
        have e2 : sizeR n x = 0 := by rw [sizeR, e1]; rfl
        rw [e1, e2]
        rcases hk3 with hk0 | hk0 | hk0
        · have hbb : (x.bytes == []) = false := by simpa [hk0] using h2b
          simp only [encEv, hk0] at h1 ⊢
          (refine ppure_of_T ok79 (by simp only [List.length_cons, List.length_nil]; decide) ?_; refine t_seq ?_)
          (have hA := hbb; have hP := And.intro h1 (And.intro h2 (True.intro)); have hNE := True.intro; have hC := True.intro; repeat' first
              | with_reducible first | refine k_seq ?_ | refine t_seq ?_ | refine t_reg ?_ | refine t_nil ?_ | refine t_skip ?_ | refine t_ret ?_ | refine k_seq_ret ?_
              | refine ae_val ?_
              | refine ae_callS ?_
              | refine ae_gval ?_
              | refine ae_gno ?_
              | refine ae_box ?_
              | refine a_cond ?_ ?_
              | (with_reducible intro hc; with_reducible exact Bool.noConfusion hc)
              | (with_reducible intro hc; have hC := And.intro hC hc))
          (first | apply pend rs79 | apply pendN rs79); (focus (simp (maxDischargeDepth := 8) only [hNE, go_sem, cast0]; first | done | exact rfl)); (focus (simp (maxDischargeDepth := 8) only [hNE, go_sem, cast0]; first | done | exact rfl))
        · have hbb : (x.bytes == []) = true := by simpa [hk0] using h2b
          simp only [encEv, hk0] at h1 ⊢
          (refine ppure_of_T ok79 (by simp only [List.length_cons, List.length_nil]; decide) ?_; refine t_seq ?_)
          (have hA := hbb; have hP := And.intro h1 (And.intro h2 (True.intro)); have hNE := True.intro; have hC := True.intro; repeat' first
              | with_reducible first | refine k_seq ?_ | refine t_seq ?_ | refine t_reg ?_ | refine t_nil ?_ | refine t_skip ?_ | refine t_ret ?_ | refine k_seq_ret ?_
              | refine ae_val ?_
              | refine ae_callS ?_
              | refine ae_gval ?_
              | refine ae_gno ?_
              | refine ae_box ?_
              | refine a_cond ?_ ?_
              | (with_reducible intro hc; with_reducible exact Bool.noConfusion hc)
              | (with_reducible intro hc; have hC := And.intro hC hc))
          (first | apply pend rs79 | apply pendN rs79); (focus (simp (maxDischargeDepth := 8) only [hNE, go_sem, cast0]; first | done | exact rfl)); (focus (simp (maxDischargeDepth := 8) only [hNE, go_sem, cast0]; first | done | exact rfl))
        · have hbb : (x.bytes == []) = true := by simp [hk0] at h2b; simp [h2b.1]
          have hp : decide (¬ x.pos = 0) = false := by simp [hk0] at h2b; simp [h2b.2]
          simp only [encEv, hk0] at h1 ⊢
          (refine ppure_of_T ok79 (by simp only [List.length_cons, List.length_nil]; decide) ?_; refine t_seq ?_)
          (have hA := And.intro hbb (hp); have hP := And.intro h1 (And.intro h2 (True.intro)); have hNE := True.intro; have hC := True.intro; repeat' first
              | with_reducible first | refine k_seq ?_ | refine t_seq ?_ | refine t_reg ?_ | refine t_nil ?_ | refine t_skip ?_ | refine t_ret ?_ | refine k_seq_ret ?_
              | refine ae_val ?_
              | refine ae_callS ?_
              | refine ae_gval ?_
              | refine ae_box ?_
              | refine a_cond ?_ ?_
              | (with_reducible intro hc; with_reducible exact Bool.noConfusion hc)
              | (with_reducible intro hc; have hC := And.intro hC hc))
          (first | apply pend rs79 | apply pendN rs79); (focus (simp (maxDischargeDepth := 8) only [hNE, go_sem, cast0]; first | done | exact rfl)); (focus (simp (maxDischargeDepth := 8) only [hNE, go_sem, cast0]; first | done | exact rfl))
      | true =>
        rw [hpb] at h2 hif
        have e0 : evE n x = 0 := by rw [hif]; rfl
        have e1 : sizeF n x = (sizeN n x, rfs (decide (20000 < sizeN n x)) 8) := by rw [sizeF, if_pos e0]
        have hpp := hpb
        rw [btw_true] at hpp
        obtain ⟨p, hp⟩ : ∃ p : Nat, x.pos = (p : Int) := ⟨x.pos.toNat, by omega⟩
        have hpn : x.pos.toNat = p := by omega
        have w1 : IntKind.i64.wrap ((p : Int) + (x.bytes.length : Int)) = ((p + x.bytes.length : Nat) : Int) := by rw [IntKind.wrap_i64]; omega
        rcases hk3 with hk0 | hk0 | hk0
        · have hbb : (x.bytes == []) = false := by simpa [hk0] using h2b
          have sn : sizeN n x = max n (p + x.bytes.length) := by simp [sizeN, hk0, hpn]
          by_cases hlg : 20000 < p + x.bytes.length
          · have e3 : sizeF n x = (sizeN n x, 8) := by rw [e1, sn]; simp [rfs]; omega
            have e2 : sizeR n x = 0 := by rw [sizeR, e3]; rfl
            have e4 : decide ((20000 : Int) < ((p + x.bytes.length : Nat) : Int)) = true := by simp; omega
            rw [e3, e2]
            simp only [encEv, hk0, hp] at h1 h2 ⊢
            (refine ppure_of_T ok79 (by simp only [List.length_cons, List.length_nil]; decide) ?_; refine t_seq ?_)
            (have hA := And.intro hbb (And.intro w1 (e4)); have hP := And.intro h1 (And.intro h2 (True.intro)); have hNE := True.intro; have hC := True.intro; repeat' first
                | with_reducible first | refine k_seq ?_ | refine t_seq ?_ | refine t_reg ?_ | refine t_nil ?_ | refine t_skip ?_ | refine t_ret ?_ | refine k_seq_ret ?_
                | refine ae_val ?_
                | refine ae_callS ?_
                | refine ae_gval ?_
                | refine ae_gno ?_
                | refine ae_box ?_
                | refine a_cond ?_ ?_
                | (with_reducible intro hc; with_reducible exact Bool.noConfusion hc)
                | (with_reducible intro hc; have hC := And.intro hC hc))
            (first | apply pend rs79 | apply pendN rs79); (focus (simp (maxDischargeDepth := 8) only [hNE, go_sem, cast0]; first | done | exact rfl)); (focus (simp (maxDischargeDepth := 8) only [hNE, go_sem, cast0]; first | done | exact rfl))
          · have e3 : sizeF n x = (sizeN n x, 0) := by rw [e1, sn]; simp [rfs]; omega
            have e2 : sizeR n x = sizeN n x := by rw [sizeR, e3]; rfl
            have e4 : decide ((20000 : Int) < ((p + x.bytes.length : Nat) : Int)) = false := by simp; omega
            have mx : (if (n : Int) < ((p + x.bytes.length : Nat) : Int) then ((p + x.bytes.length : Nat) : Int) else (n : Int)) = (sizeN n x : Int) := by rw [sn]; split <;> omega
            rw [e3, e2]
            simp only [encEv, hk0, hp] at h1 h2 ⊢
            (refine ppure_of_T ok79 (by simp only [List.length_cons, List.length_nil]; decide) ?_; refine t_seq ?_)
            (have hA := And.intro hbb (And.intro w1 (And.intro e4 (mx))); have hP := And.intro h1 (And.intro h2 (True.intro)); have hNE := True.intro; have hC := True.intro; repeat' first
                | with_reducible first | refine k_seq ?_ | refine t_seq ?_ | refine t_reg ?_ | refine t_nil ?_ | refine t_skip ?_ | refine t_ret ?_
                | refine ae_val ?_
                | refine ae_callS ?_
                | refine ae_gval ?_
                | refine ae_gno ?_
                | refine ae_box ?_
                | refine a_cond ?_ ?_
                | (with_reducible intro hc; with_reducible exact Bool.noConfusion hc)
                | (with_reducible intro hc; have hC := And.intro hC hc))
            (first | apply pend rs79 | apply pendN rs79); (focus (simp (maxDischargeDepth := 8) only [hNE, go_sem, cast0]; first | done | exact rfl)); (focus (simp (maxDischargeDepth := 8) only [hNE, go_sem, cast0]; first | done | exact rfl))
        · have hbb : (x.bytes == []) = true := by simpa [hk0] using h2b
          have sn : sizeN n x = p := by simp [sizeN, hk0, hpn]
          have e3 : sizeF n x = (p, 0) := by rw [e1, sn]; simp [rfs]; omega
          have e2 : sizeR n x = p := by rw [sizeR, e3, sn]; rfl
          rw [e3, e2]
          simp only [encEv, hk0, hp] at h1 h2 ⊢
          (refine ppure_of_T ok79 (by simp only [List.length_cons, List.length_nil]; decide) ?_; refine t_seq ?_)
          (have hA := And.intro hbb (w1); have hP := And.intro h1 (And.intro h2 (True.intro)); have hNE := True.intro; have hC := True.intro; repeat' first
              | with_reducible first | refine k_seq ?_ | refine t_seq ?_ | refine t_reg ?_ | refine t_nil ?_ | refine t_skip ?_ | refine t_ret ?_ | refine k_seq_ret ?_
              | refine ae_val ?_
              | refine ae_callS ?_
              | refine ae_gval ?_
              | refine ae_gno ?_
              | refine ae_box ?_
              | refine a_cond ?_ ?_
              | (with_reducible intro hc; with_reducible exact Bool.noConfusion hc)
              | (with_reducible intro hc; have hC := And.intro hC hc))
          (first | apply pend rs79 | apply pendN rs79); (focus (simp (maxDischargeDepth := 8) only [hNE, go_sem, cast0]; first | done | exact rfl)); (focus (simp (maxDischargeDepth := 8) only [hNE, go_sem, cast0]; first | done | exact rfl))
        · have hbb : x.bytes = [] := by simp [hk0] at h2b; exact h2b.1
          have hp0 : p = 0 := by simp [hk0] at h2b; omega
          subst hp0
          have sn : sizeN n x = n := by simp [sizeN, hk0]
          have e3 : sizeF n x = (n, 0) := by rw [e1, sn]; simp [rfs]; omega
          have e2 : sizeR n x = n := by rw [sizeR, e3, sn]; rfl
          have mx : (if (n : Int) < 0 then (0 : Int) else (n : Int)) = (n : Int) := if_neg (by omega)
          rw [e3, e2]
          simp only [encEv, hk0, hp, hbb] at h1 h2 ⊢
          (refine ppure_of_T ok79 (by simp only [List.length_cons, List.length_nil]; decide) ?_; refine t_seq ?_)
          have wz : IntKind.i64.wrap (0 + 0) = 0 := by decide
          have wz2 : IntKind.i64.wrap 0 = 0 := by decide
          have ezz : decide ((20000 : Int) < 0) = false := rfl
          (have hA := And.intro wz (And.intro wz2 (And.intro ezz (mx))); have hP := And.intro h1 (And.intro h2 (True.intro)); have hNE := True.intro; have hC := True.intro; repeat' first
              | with_reducible first | refine k_seq ?_ | refine t_seq ?_ | refine t_reg ?_ | refine t_nil ?_ | refine t_skip ?_ | refine t_ret ?_
              | refine ae_val ?_
              | refine ae_callS ?_
              | refine ae_gval ?_
              | refine ae_box ?_
              | refine a_cond ?_ ?_
              | (with_reducible intro hc; with_reducible exact Bool.noConfusion hc)
              | (with_reducible intro hc; have hC := And.intro hC hc))
          (first | apply pend rs79 | apply pendN rs79); (focus (simp (maxDischargeDepth := 8) only [hNE, go_sem, cast0]; first | done | exact rfl)); (focus (simp (maxDischargeDepth := 8) only [hNE, go_sem, cast0]; first | done | exact rfl))
theorem chkL_size {n : Nat} {x : Ev} (h : (sizeF n x).2 = 0) : (sizeF n x).1 = sizeR n x := by
  rw [sizeR, if_pos h]; exact (sizeF_le h).2.1
attribute [local go_sem] encEv Int.toNat_natCast List.getElem?_map Option.map_some in
set_option maxHeartbeats 2000000 in
theorem p37 (s : List UInt8) (l : List Ev) (hs : s.length ≤ 140737488355328) (hl : l.length ≤ 1000) (hb : ∀ x ∈ l, x.bytes.length ≤ 140737488355328) :
    PPure Try.prog 37 [.str s, .list .any (l.map encEv)] (.tup [.int .i64 ((chkF s l).1 : Int), .int .i64 (chkF s l).2]) := by
  by_cases h1 : 20000 < s.length
  · have e0 : chkF s l = (0, 8) := by simp [chkF, h1]
    have e1 : decide ((20000 : Int) < (s.length : Int)) = true := by simp; omega
    rw [e0]
    (refine ppure_of_T ok37 (by simp only [List.length_cons, List.length_nil]; decide) ?_; refine t_seq ?_)
    (have hA := e1; have hP := True.intro; have hNE := True.intro; have hC := True.intro; repeat' first
        | with_reducible first | refine k_seq ?_ | refine t_seq ?_ | refine t_reg ?_ | refine t_nil ?_ | refine t_ret ?_ | refine k_seq_ret ?_
        | refine ae_val ?_
        | refine ae_gval ?_
        | refine a_cond ?_ ?_
        | (with_reducible intro hc; with_reducible exact Bool.noConfusion hc)
        | (with_reducible intro hc; have hC := And.intro hC hc))
    (first | apply pend rs37 | apply pendN rs37); (focus (simp only [go_sem, Int.natCast_zero]; first | done | exact rfl)); (focus (simp only [go_sem, Int.natCast_zero]; first | done | exact rfl))
  have e1 : decide ((20000 : Int) < (s.length : Int)) = false := by simp; omega
  by_cases h2 : 300 < l.length
  · have e0 : chkF s l = (0, 8) := by simp [chkF, h2]
    have e2 : decide ((300 : Int) < (l.length : Int)) = true := by simp; omega
    rw [e0]
    (refine ppure_of_T ok37 (by simp only [List.length_cons, List.length_nil]; decide) ?_; refine t_seq ?_)
    (have hA := And.intro e1 (e2); have hP := True.intro; have hNE := True.intro; have hC := True.intro; repeat' first
        | with_reducible first | refine k_seq ?_ | refine t_seq ?_ | refine t_reg ?_ | refine t_nil ?_ | refine t_ret ?_ | refine k_seq_ret ?_
        | refine ae_val ?_
        | refine ae_gval ?_
        | refine a_cond ?_ ?_
        | (with_reducible intro hc; with_reducible exact Bool.noConfusion hc)
        | (with_reducible intro hc; have hC := And.intro hC hc))
    (first | apply pend rs37 | apply pendN rs37); (focus (simp only [go_sem, Int.natCast_zero]; first | done | exact rfl)); (focus (simp only [go_sem, Int.natCast_zero]; first | done | exact rfl))
  have e2 : decide ((300 : Int) < (l.length : Int)) = false := by simp; omega
  have e0 : chkF s l = chkL l 0 s.length := by simp [chkF, h1, h2]
  obtain ⟨R, hR⟩ : ∃ R, chkL l 0 s.length = R := ⟨_, rfl⟩
  rw [e0, hR]
  (refine ppure_of_T ok37 (by simp only [List.length_cons, List.length_nil]; decide) ?_; refine t_seq ?_)
  (have hA := And.intro e1 (e2); have hP := True.intro; have hNE := True.intro; have hC := True.intro; repeat' first
      | with_reducible first | refine k_seq ?_ | refine t_seq ?_ | refine t_reg ?_ | refine t_nil ?_ | refine t_skip ?_ | refine t_block ?_
      | refine ae_val ?_
      | refine ae_gval ?_
      | refine a_cond ?_ ?_
      | (with_reducible intro hc; with_reducible exact Bool.noConfusion hc)
      | (with_reducible intro hc; have hC := And.intro hC hc))
  refine t_loopX (fun (k0 : Nat) (E0 : Nat → PV) (H0 : Hp) => ∃ (i : Nat) (n : Nat), i + k0 = l.length ∧ n ≤ 20000 ∧ chkL (l.drop i) i n = R ∧ E0 7 = .int .i64 (i : Int) ∧ E0 6 = .int .i64 (n : Int) ∧ H0 = hp []) (l.length) ?_ ?_
  intro Ng
  refine ⟨_, _, wkE_id, rowsok_nil, 0, s.length, (by first | omega | rfl | assumption | (simp (maxDischargeDepth := 8) only [go_sem, Int.natCast_zero, hNE]; first | done | rfl | assumption | omega)), (by first | omega | rfl | assumption | (simp (maxDischargeDepth := 8) only [go_sem, Int.natCast_zero, hNE]; first | done | rfl | assumption | omega)), ?_, (by simp (maxDischargeDepth := 8) only [go_sem, Int.natCast_zero, hNE, List.length_append, List.length_cons, List.length_nil, Nat.zero_add]; first | done | rfl), (by simp (maxDischargeDepth := 8) only [go_sem, Int.natCast_zero, hNE, List.length_append, List.length_cons, List.length_nil, Nat.zero_add]; first | done | rfl), rfl⟩
  · exact hR
  rintro k0 E0 H0 hfr0 ⟨i, n, hk, hn, hr, h0_7, h0_6, rfl⟩
  have e0_1 := hfr0 1 rfl
  simp (maxDischargeDepth := 8) only [go_sem, Int.natCast_zero, hNE] at e0_1
  clear hfr0
  by_cases hi : i < l.length
  · obtain ⟨x, hx, hdr⟩ := at_list hi
    have hlt := lt_int hi
    have hw := wrap_next hi hl
    have hge : (0 : Int) ≤ (i : Int) := by omega
    have h79 := p79 n x hn (hb x (List.mem_of_getElem? hx))
    rw [hdr, chkL] at hr
    by_cases hz : (sizeF n x).2 = 0
    · have hle := sizeF_le hz
      rw [← chkL_size hz] at h79
      rw [if_pos hz] at hr
      generalize sizeF n x = q at h79 hr hz hle
      have hq : q.1 ≤ 20000 := by omega
      have ez : decide (¬ q.2 = 0) = false := dnz0 hz
      simp only [encEv] at h79
      (have hA := And.intro e0_1 (And.intro h0_7 (And.intro h0_6 (And.intro hlt (And.intro hge (And.intro hx (ez)))))); have hP := And.intro h79 (True.intro); have hNE := True.intro; have hC := True.intro; repeat' first
          | with_reducible first | refine k_seq ?_ | refine t_seq ?_ | refine t_reg ?_ | refine t_nil ?_ | refine t_skip ?_ | refine k_blk ?_ | refine t_block ?_
          | refine ae_val ?_
          | refine ae_callS ?_
          | refine a_cond ?_ ?_
          | (with_reducible intro hc; with_reducible exact Bool.noConfusion hc)
          | (with_reducible intro hc; have hC := And.intro hC hc))
      refine k_invX (k0 - 1) (by omega) ?_
      intro Ng
      refine ⟨_, _, wkE_id, rowsok_nil, i + 1, q.1, (by first | omega | (simp only [List.length_append, List.length_cons, List.length_nil, List.length_drop, List.length_take, List.length_map]; omega)), (by first | omega | (simp only [List.length_append, List.length_cons, List.length_nil, List.length_drop, List.length_take, List.length_map]; omega)), ?_, (by simp (maxDischargeDepth := 8) only [go_sem, e0_1, h0_7, h0_6, hw, hNE, List.length_append, List.length_cons, List.length_nil, Nat.zero_add]; first | done | rfl), (by simp (maxDischargeDepth := 8) only [go_sem, e0_1, h0_7, h0_6, hw, hNE, List.length_append, List.length_cons, List.length_nil, Nat.zero_add]; first | done | rfl), rfl⟩
      exact hr
    · rw [if_neg hz] at hr
      generalize sizeF n x = q at h79 hr hz
      have ez : decide (¬ q.2 = 0) = true := dnz1 hz
      simp only [encEv] at h79
      subst hr
      (have hA := And.intro e0_1 (And.intro h0_7 (And.intro h0_6 (And.intro hlt (And.intro hge (And.intro hx (ez)))))); have hP := And.intro h79 (True.intro); have hNE := True.intro; have hC := True.intro; repeat' first
          | with_reducible first | refine k_seq ?_ | refine t_seq ?_ | refine t_reg ?_ | refine t_nil ?_ | refine t_skip ?_ | refine t_ret ?_ | refine k_seq_ret ?_ | refine k_blk_ret ?_ | refine k_invX_ret ?_ | refine t_block ?_
          | refine ae_val ?_
          | refine ae_callS ?_
          | refine a_cond ?_ ?_
          | (with_reducible intro hc; with_reducible exact Bool.noConfusion hc)
          | (with_reducible intro hc; have hC := And.intro hC hc))
      (first | apply pend rs37 | apply pendN rs37); (focus (simp (maxDischargeDepth := 8) only [hNE, go_sem, e0_1, h0_7, h0_6]; first | done | exact rfl)); (focus (simp (maxDischargeDepth := 8) only [hNE, go_sem, e0_1, h0_7, h0_6]; first | done | exact rfl))
  · have hlt := nlt_int hi
    have hil : i = l.length := by omega
    rw [hil, List.drop_length, chkL] at hr
    subst hr
    (have hA := And.intro e0_1 (And.intro h0_7 (And.intro h0_6 (hlt))); have hP := True.intro; have hNE := True.intro; have hC := True.intro; repeat' first
        | with_reducible first | refine k_seq ?_ | refine t_seq ?_ | refine t_reg ?_ | refine t_nil ?_ | refine t_ret ?_ | refine t_exit ?_ | refine k_seq_exit ?_ | refine k_blk_exit ?_ | refine k_invX_exit ?_
        | refine ae_val ?_
        | refine a_cond ?_ ?_
        | (with_reducible intro hc; with_reducible exact Bool.noConfusion hc)
        | (with_reducible intro hc; have hC := And.intro hC hc))
    (first | apply pend rs37 | apply pendN rs37); (focus (simp only [go_sem, e0_1, h0_7, h0_6]; first | done | exact rfl)); (focus (simp only [go_sem, e0_1, h0_7, h0_6]; first | done | exact rfl))
attribute [local go_sem] encEv Int.toNat_natCast List.getElem?_map Option.map_some strCmp List.length_nil List.append_nil in
set_option maxHeartbeats 2000000 in
theorem p38 (s0 : List UInt8) (l : List Ev) (hs : s0.length ≤ 20000) (hl : l.length ≤ 1000) (hv : EvV s0.length l) (hb : ∀ x ∈ l, x.bytes.length ≤ 140737488355328) :
    PPure Try.prog 38 [.str s0, .list .any (l.map encEv)] (.str (wrF s0 l)) := by
  obtain ⟨R, hR⟩ : ∃ R, wrF s0 l = R := ⟨_, rfl⟩
  rw [hR]
  (refine ppure_of_T ok38 (by simp only [List.length_cons, List.length_nil]; decide) ?_; refine t_seq ?_)
  (have hA := True.intro; have hP := True.intro; have hNE := True.intro; have hC := True.intro; repeat' first
      | with_reducible first | refine k_seq ?_ | refine t_seq ?_ | refine t_reg ?_ | refine t_nil ?_ | refine t_block ?_
      | refine ae_val ?_)
  refine t_loopX (fun (k0 : Nat) (E0 : Nat → PV) (H0 : Hp) => ∃ (i : Nat) (s : List UInt8), i + k0 = l.length ∧ s.length ≤ 20000 ∧ wrF s (l.drop i) = R ∧ EvV s.length (l.drop i) ∧ E0 5 = .int .i64 (i : Int) ∧ E0 0 = .str s ∧ H0 = hp []) (l.length) ?_ ?_
  intro Ng
  refine ⟨_, _, wkE_id, rowsok_nil, 0, s0, (by first | omega | rfl | assumption | (simp (maxDischargeDepth := 8) only [go_sem, Int.natCast_zero, hNE]; first | done | rfl | assumption | omega)), (by first | omega | rfl | assumption | (simp (maxDischargeDepth := 8) only [go_sem, Int.natCast_zero, hNE]; first | done | rfl | assumption | omega)), ?_, ?_, (by simp (maxDischargeDepth := 8) only [go_sem, Int.natCast_zero, hNE, List.length_append, List.length_cons, List.length_nil, Nat.zero_add]; first | done | rfl), (by simp (maxDischargeDepth := 8) only [go_sem, Int.natCast_zero, hNE, List.length_append, List.length_cons, List.length_nil, Nat.zero_add]; first | done | rfl), rfl⟩
  · exact hR
  · exact hv
  rintro k0 E0 H0 hfr0 ⟨i, s, hk, hn, hr, he, h0_5, h0_0, rfl⟩
  have e0_1 := hfr0 1 rfl; have e0_4 := hfr0 4 rfl
  simp (maxDischargeDepth := 8) only [go_sem, Int.natCast_zero, hNE] at e0_1 e0_4
  clear hfr0
  by_cases hi : i < l.length
  · obtain ⟨x, hx, hdr⟩ := at_list hi
    have hlt := lt_int hi
    have hw := wrap_next hi hl
    have hge : (0 : Int) ≤ (i : Int) := by omega
    rw [hdr] at hr he
    obtain ⟨h1, h2⟩ := he
    obtain ⟨g1, g2, g3⟩ := sizeF_le h1
    have hal := aft_len g1
    rw [wrF, List.foldl_cons] at hr
    rw [g2, ← hal] at h2
    have hn2 : (aftF s x).length ≤ 20000 := by omega
    obtain ⟨hk1, hk2, hp0, hp1⟩ := evE_zero g1
    have hbx := hb x (List.mem_of_getElem? hx)
    obtain ⟨p, hp⟩ : ∃ p : Nat, x.pos = (p : Int) := ⟨x.pos.toNat, by omega⟩
    have hpn : x.pos.toNat = p := by omega
    have b1 : (0 : Int) ≤ (p : Int) := by omega
    have b2 : (p : Int) ≤ (s.length : Int) := by omega
    by_cases hk1 : x.kind = 1
    · have ek1 : decide (x.kind = 1) = true := by simp [hk1]
      have e0 : aftF s x = s.take p := by simp [aftF, hk1, hpn]
      rw [e0] at hr h2 hn2
      (have hA := And.intro e0_1 (And.intro e0_4 (And.intro h0_5 (And.intro h0_0 (And.intro hlt (And.intro hge (And.intro hx (And.intro hp (And.intro b1 (And.intro b2 (ek1)))))))))); have hP := True.intro; have hNE := True.intro; have hC := True.intro; repeat' first
          | with_reducible first | refine k_seq ?_ | refine t_seq ?_ | refine t_reg ?_ | refine t_nil ?_ | refine t_skip ?_ | refine k_blk ?_ | refine t_block ?_
          | refine ae_val ?_
          | (refine ae_alloc ?_; intro la ha hn1; have hNE := And.intro hNE hn1)
          | refine ae_store ?_
          | refine a_cond ?_ ?_
          | (with_reducible intro hc; with_reducible exact Bool.noConfusion hc)
          | (with_reducible intro hc; have hC := And.intro hC hc))
      refine k_invX (k0 - 1) (by omega) ?_
      intro Ng
      refine ⟨_, _, wkE_id, rowsok_nil, i + 1, s.take p, (by first | omega | (simp only [List.length_append, List.length_cons, List.length_nil, List.length_drop, List.length_take, List.length_map]; omega)), (by first | omega | (simp only [List.length_append, List.length_cons, List.length_nil, List.length_drop, List.length_take, List.length_map]; omega)), ?_, ?_, (by simp (maxDischargeDepth := 8) only [go_sem, e0_1, e0_4, h0_5, h0_0, hw, hNE, List.length_append, List.length_cons, List.length_nil, Nat.zero_add]; first | done | rfl), (by simp (maxDischargeDepth := 8) only [go_sem, e0_1, e0_4, h0_5, h0_0, hw, hNE, List.length_append, List.length_cons, List.length_nil, Nat.zero_add]; first | done | rfl), rfl⟩
      · exact hr
      · exact h2
    have ek1 : decide (x.kind = 1) = false := by simp [hk1]
    by_cases hk0 : x.kind = 0
    · have ek0 : decide (x.kind = 0) = true := by simp [hk0]
      have w1 : IntKind.i64.wrap ((p : Int) + (x.bytes.length : Int)) = ((p + x.bytes.length : Nat) : Int) := by rw [IntKind.wrap_i64]; omega
      have b3 : (0 : Int) ≤ ((p + x.bytes.length : Nat) : Int) := by omega
      have b5 : (((s.take p).length + x.bytes.length : Nat) : Int) ≤ 9223372036854775807 := by simp; omega
      by_cases hlt2 : p + x.bytes.length < s.length
      · have e5 : decide (((p + x.bytes.length : Nat) : Int) < (s.length : Int)) = true := by simp; omega
        have b4 : ((p + x.bytes.length : Nat) : Int) ≤ (s.length : Int) := by omega
        have e0 : aftF s x = s.take p ++ x.bytes ++ s.drop (p + x.bytes.length) := by
          simp only [aftF, hk0, hpn, if_true]; rw [Nat.min_eq_left (by omega)]
        rw [e0] at hr h2 hn2
        have b6 : (((s.take p ++ x.bytes).length + (s.drop (p + x.bytes.length)).length : Nat) : Int) ≤ 9223372036854775807 := by simp; omega
        (have hA := And.intro e0_1 (And.intro e0_4 (And.intro h0_5 (And.intro h0_0 (And.intro hlt (And.intro hge (And.intro hx (And.intro hp (And.intro b1 (And.intro b2 (And.intro ek1 (And.intro ek0 (And.intro w1 (And.intro e5 (And.intro b3 (And.intro b4 (And.intro b5 (b6))))))))))))))))); have hP := True.intro; have hNE := True.intro; have hC := True.intro; repeat' first
            | ((with_reducible apply te_drwA); (focus (simp (maxDischargeDepth := 8) only [effFlA, List.map_cons, List.map_nil]; exact rfl)); (focus decide +kernel))
            | with_reducible first | refine k_seq ?_ | refine t_seq ?_ | refine t_reg ?_ | refine t_nil ?_ | refine t_skip ?_ | refine k_blk ?_ | refine t_block ?_ | refine m_nil ?_
            | refine ae_val ?_
            | refine be_val ?_
            | (refine ae_alloc ?_; intro la ha hn1; have hNE := And.intro hNE hn1)
            | refine ae_store ?_
            | refine a_cond ?_ ?_
            | (with_reducible intro hc; with_reducible exact Bool.noConfusion hc)
            | (with_reducible intro hc; have hC := And.intro hC hc))
        refine k_invX (k0 - 1) (by omega) ?_
        intro Ng
        refine ⟨_, _, wkE_id, rowsok_nil, i + 1, s.take p ++ x.bytes ++ s.drop (p + x.bytes.length), (by first | omega | (simp only [List.length_append, List.length_cons, List.length_nil, List.length_drop, List.length_take, List.length_map]; omega)), (by first | omega | (simp only [List.length_append, List.length_cons, List.length_nil, List.length_drop, List.length_take, List.length_map]; omega)), ?_, ?_, (by simp (maxDischargeDepth := 8) only [go_sem, e0_1, e0_4, h0_5, h0_0, hw, List.append_assoc, hNE, List.length_append, List.length_cons, List.length_nil, Nat.zero_add]; first | done | rfl), (by simp (maxDischargeDepth := 8) only [go_sem, e0_1, e0_4, h0_5, h0_0, hw, List.append_assoc, hNE, List.length_append, List.length_cons, List.length_nil, Nat.zero_add]; first | done | rfl), rfl⟩
        · exact hr
        · exact h2
      · have e5 : decide (((p + x.bytes.length : Nat) : Int) < (s.length : Int)) = false := by simp; omega
        have e0 : aftF s x = s.take p ++ x.bytes := by
          simp only [aftF, hk0, hpn, if_true]; rw [List.drop_eq_nil_of_le (by omega), List.append_nil]
        rw [e0] at hr h2 hn2
        have b6 : (((s.take p ++ x.bytes).length : Nat) : Int) ≤ 9223372036854775807 := by simp; omega
        (have hA := And.intro e0_1 (And.intro e0_4 (And.intro h0_5 (And.intro h0_0 (And.intro hlt (And.intro hge (And.intro hx (And.intro hp (And.intro b1 (And.intro b2 (And.intro ek1 (And.intro ek0 (And.intro w1 (And.intro e5 (And.intro b3 (And.intro b5 (b6)))))))))))))))); have hP := True.intro; have hNE := True.intro; have hC := True.intro; repeat' first
            | ((with_reducible apply te_drwA); (focus (simp (maxDischargeDepth := 8) only [effFlA, List.map_cons, List.map_nil]; exact rfl)); (focus decide +kernel))
            | with_reducible first | refine k_seq ?_ | refine t_seq ?_ | refine t_reg ?_ | refine t_nil ?_ | refine t_skip ?_ | refine k_blk ?_ | refine t_block ?_ | refine m_nil ?_
            | refine ae_val ?_
            | refine be_val ?_
            | (refine ae_alloc ?_; intro la ha hn1; have hNE := And.intro hNE hn1)
            | refine ae_store ?_
            | refine a_cond ?_ ?_
            | (with_reducible intro hc; with_reducible exact Bool.noConfusion hc)
            | (with_reducible intro hc; have hC := And.intro hC hc))
        refine k_invX (k0 - 1) (by omega) ?_
        intro Ng
        refine ⟨_, _, wkE_id, rowsok_nil, i + 1, s.take p ++ x.bytes, (by first | omega | (simp only [List.length_append, List.length_cons, List.length_nil, List.length_drop, List.length_take, List.length_map]; omega)), (by first | omega | (simp only [List.length_append, List.length_cons, List.length_nil, List.length_drop, List.length_take, List.length_map]; omega)), ?_, ?_, (by simp (maxDischargeDepth := 8) only [go_sem, e0_1, e0_4, h0_5, h0_0, hw, List.append_nil, hNE, List.length_append, List.length_cons, List.length_nil, Nat.zero_add]; first | done | rfl), (by simp (maxDischargeDepth := 8) only [go_sem, e0_1, e0_4, h0_5, h0_0, hw, List.append_nil, hNE, List.length_append, List.length_cons, List.length_nil, Nat.zero_add]; first | done | rfl), rfl⟩
        · exact hr
        · exact h2
    · have ek0 : decide (x.kind = 0) = false := by simp [hk0]
      have e0 : aftF s x = s := by simp [aftF, hk0, hk1]
      rw [e0] at hr h2
      (have hA := And.intro e0_1 (And.intro e0_4 (And.intro h0_5 (And.intro h0_0 (And.intro hlt (And.intro hge (And.intro hx (And.intro ek1 (ek0)))))))); have hP := True.intro; have hNE := True.intro; have hC := True.intro; repeat' first
          | with_reducible first | refine k_seq ?_ | refine t_seq ?_ | refine t_reg ?_ | refine t_nil ?_ | refine t_skip ?_ | refine k_blk ?_ | refine t_block ?_
          | refine ae_val ?_
          | (refine ae_alloc ?_; intro la ha hn1; have hNE := And.intro hNE hn1)
          | refine ae_store ?_
          | refine a_cond ?_ ?_
          | (with_reducible intro hc; with_reducible exact Bool.noConfusion hc)
          | (with_reducible intro hc; have hC := And.intro hC hc))
      refine k_invX (k0 - 1) (by omega) ?_
      intro Ng
      refine ⟨_, _, wkE_id, rowsok_nil, i + 1, s, (by first | omega | (simp only [List.length_append, List.length_cons, List.length_nil, List.length_drop, List.length_take, List.length_map]; omega)), (by first | omega | (simp only [List.length_append, List.length_cons, List.length_nil, List.length_drop, List.length_take, List.length_map]; omega)), ?_, ?_, (by simp (maxDischargeDepth := 8) only [go_sem, e0_1, e0_4, h0_5, h0_0, hw, hNE, List.length_append, List.length_cons, List.length_nil, Nat.zero_add]; first | done | rfl), (by simp (maxDischargeDepth := 8) only [go_sem, e0_1, e0_4, h0_5, h0_0, hw, hNE, List.length_append, List.length_cons, List.length_nil, Nat.zero_add]; first | done | rfl), rfl⟩
      · exact hr
      · exact h2
  · have hlt := nlt_int hi
    have hil : i = l.length := by omega
    rw [hil, List.drop_length, wrF, List.foldl_nil] at hr
    subst hr
    (have hA := And.intro e0_1 (And.intro e0_4 (And.intro h0_5 (And.intro h0_0 (hlt)))); have hP := True.intro; have hNE := True.intro; have hC := True.intro; repeat' first
        | with_reducible first | refine k_seq ?_ | refine t_seq ?_ | refine t_reg ?_ | refine t_nil ?_ | refine t_ret ?_ | refine t_exit ?_ | refine k_seq_exit ?_ | refine k_blk_exit ?_ | refine k_invX_exit ?_
        | refine ae_val ?_
        | refine a_cond ?_ ?_
        | (with_reducible intro hc; with_reducible exact Bool.noConfusion hc)
        | (with_reducible intro hc; have hC := And.intro hC hc))
    (first | apply pend rs38 | apply pendN rs38); (focus (simp only [go_sem, e0_1, e0_4, h0_5, h0_0]; first | done | exact rfl)); (focus (simp only [go_sem, e0_1, e0_4, h0_5, h0_0]; first | done | exact rfl))
end Go.Proofs.Ythdgdngdfijfhaa
namespace Go.Proofs.Ythdgdngdfijfhaa
open Go.RowKit Go.Proofs
set_option linter.unusedVariables false
set_option linter.unusedSimpArgs false
attribute [local irreducible] PPure CallN Tops TopsDm T
attribute [local go_sem] encEv Int.toNat_natCast List.getElem?_map Option.map_some in
theorem p80 (l : List Ev) (r : Nat) (hl : l.length ≤ 1000) (hr0 : r ≤ l.length) : PPure Try.prog 80 [.list .any (l.map encEv), .int .i64 (r : Int)] (.int .i64 ((syncL (l.take r) 0 0 : Nat) : Int)) := by
  obtain ⟨S, hS⟩ : ∃ S, syncL (l.take r) 0 0 = S := ⟨_, rfl⟩
  rw [hS]
  (refine ppure_of_T ok80 (by simp only [List.length_cons, List.length_nil]; decide) ?_; refine t_seq ?_)
  (have hA := True.intro; have hP := True.intro; have hNE := True.intro; have hC := True.intro; repeat' first
      | with_reducible first | refine k_seq ?_ | refine t_seq ?_ | refine t_reg ?_ | refine t_nil ?_ | refine t_block ?_
      | refine ae_val ?_)
  refine t_loopX (fun (k0 : Nat) (E0 : Nat → PV) (H0 : Hp) => ∃ (i : Nat) (a : Nat), i + k0 = r ∧ syncL ((l.take r).drop i) i a = S ∧ E0 6 = .int .i64 (i : Int) ∧ E0 5 = .int .i64 (a : Int) ∧ H0 = hp []) (r) ?_ ?_
  intro Ng
  refine ⟨_, _, wkE_id, rowsok_nil, 0, 0, (by first | omega | rfl | assumption | (simp (maxDischargeDepth := 8) only [go_sem, cast0, hNE]; first | done | rfl | assumption | omega)), ?_, (by simp (maxDischargeDepth := 8) only [go_sem, cast0, hNE, List.length_append, List.length_cons, List.length_nil, Nat.zero_add]; first | done | rfl), (by simp (maxDischargeDepth := 8) only [go_sem, cast0, hNE, List.length_append, List.length_cons, List.length_nil, Nat.zero_add]; first | done | rfl), rfl⟩
  · exact hS
  rintro k0 E0 H0 hfr0 ⟨i, a, hk, hr3, h0_6, h0_5, rfl⟩
  have e0_0 := hfr0 0 rfl; have e0_1 := hfr0 1 rfl; have e0_4 := hfr0 4 rfl
  simp (maxDischargeDepth := 8) only [go_sem, cast0, hNE] at e0_0 e0_1 e0_4
  clear hfr0
  by_cases hi : i < r
  · obtain ⟨y, hy, hdr⟩ := at_list (xs := l.take r) (i := i) (by simp; omega)
    have hy2 : l[i]? = some y := by rwa [List.getElem?_take_of_lt hi] at hy
    have hlt : (i : Int) < (r : Int) := by omega
    have hlt2 : (i : Int) < (l.length : Int) := by omega
    have hw := wrap_next hi (by omega)
    have hge : (0 : Int) ≤ (i : Int) := by omega
    rw [hdr, syncL] at hr3
    by_cases hyk : y.kind = 2
    · have ek : decide (y.kind = 2) = true := by simp [hyk]
      rw [if_pos hyk] at hr3
      (have hA := And.intro e0_0 (And.intro e0_1 (And.intro e0_4 (And.intro h0_6 (And.intro h0_5 (And.intro hlt (And.intro hlt2 (And.intro hge (And.intro hy2 (ek))))))))); have hP := True.intro; have hNE := True.intro; have hC := True.intro; repeat' first
          | with_reducible first | refine k_seq ?_ | refine t_seq ?_ | refine t_reg ?_ | refine t_nil ?_ | refine t_skip ?_ | refine k_blk ?_ | refine t_block ?_
          | refine ae_val ?_
          | refine a_cond ?_ ?_
          | (with_reducible intro hc; with_reducible exact Bool.noConfusion hc)
          | (with_reducible intro hc; have hC := And.intro hC hc))
      refine k_invX (k0 - 1) (by omega) ?_
      intro Ng
      refine ⟨_, _, wkE_id, rowsok_nil, i + 1, i + 1, (by first | omega | (simp only [List.length_append, List.length_cons, List.length_nil, List.length_drop, List.length_take, List.length_map]; omega)), ?_, (by simp (maxDischargeDepth := 8) only [go_sem, e0_0, e0_1, e0_4, h0_6, h0_5, hw, hNE, List.length_append, List.length_cons, List.length_nil, Nat.zero_add]; first | done | rfl), (by simp (maxDischargeDepth := 8) only [go_sem, e0_0, e0_1, e0_4, h0_6, h0_5, hw, hNE, List.length_append, List.length_cons, List.length_nil, Nat.zero_add]; first | done | rfl), rfl⟩
      exact hr3
    · have ek : decide (y.kind = 2) = false := by simp [hyk]
      rw [if_neg hyk] at hr3
      (have hA := And.intro e0_0 (And.intro e0_1 (And.intro e0_4 (And.intro h0_6 (And.intro h0_5 (And.intro hlt (And.intro hlt2 (And.intro hge (And.intro hy2 (ek))))))))); have hP := True.intro; have hNE := True.intro; have hC := True.intro; repeat' first
          | with_reducible first | refine k_seq ?_ | refine t_seq ?_ | refine t_reg ?_ | refine t_nil ?_ | refine t_skip ?_ | refine k_blk ?_ | refine t_block ?_
          | refine ae_val ?_
          | refine a_cond ?_ ?_
          | (with_reducible intro hc; with_reducible exact Bool.noConfusion hc)
          | (with_reducible intro hc; have hC := And.intro hC hc))
      refine k_invX (k0 - 1) (by omega) ?_
      intro Ng
      refine ⟨_, _, wkE_id, rowsok_nil, i + 1, a, (by first | omega | (simp only [List.length_append, List.length_cons, List.length_nil, List.length_drop, List.length_take, List.length_map]; omega)), ?_, (by simp (maxDischargeDepth := 8) only [go_sem, e0_0, e0_1, e0_4, h0_6, h0_5, hw, hNE, List.length_append, List.length_cons, List.length_nil, Nat.zero_add]; first | done | rfl), (by simp (maxDischargeDepth := 8) only [go_sem, e0_0, e0_1, e0_4, h0_6, h0_5, hw, hNE, List.length_append, List.length_cons, List.length_nil, Nat.zero_add]; first | done | rfl), rfl⟩
      exact hr3
  · have hlt : ((i : Int) < (r : Int)) = False := eq_false (by omega)
    rw [List.drop_eq_nil_of_le (by simp; omega), syncL] at hr3
    subst hr3
    (have hA := And.intro e0_0 (And.intro e0_1 (And.intro e0_4 (And.intro h0_6 (And.intro h0_5 (hlt))))); have hP := True.intro; have hNE := True.intro; have hC := True.intro; repeat' first
        | with_reducible first | refine k_seq ?_ | refine t_seq ?_ | refine t_reg ?_ | refine t_nil ?_ | refine t_ret ?_ | refine t_exit ?_ | refine k_seq_exit ?_ | refine k_blk_exit ?_ | refine k_invX_exit ?_
        | refine ae_val ?_
        | refine a_cond ?_ ?_
        | (with_reducible intro hc; with_reducible exact Bool.noConfusion hc)
        | (with_reducible intro hc; have hC := And.intro hC hc))
    (first | apply pend rs80 | apply pendN rs80); (focus (simp only [go_sem, e0_0, e0_1, e0_4, h0_6, h0_5]; first | done | exact rfl)); (focus (simp only [go_sem, e0_0, e0_1, e0_4, h0_6, h0_5]; first | done | exact rfl))
def partR (l : List Ev) (x : Fl) : Nat := ((l[x.kept.toNat]?).map (·.bytes.length)).getD 0
def feF (l : List Ev) (x : Fl) : Int :=
  if btw x.reached 0 l.length = false then 2
  else if btw x.kept (syncL (l.take x.reached.toNat) 0 0) x.reached = false then 2
  else if btw x.part 0 (partR l x) = false then 2 else 0
attribute [local go_sem] encEv Int.toNat_natCast List.getElem?_map Option.map_some in
set_option maxHeartbeats 2000000 in
theorem p39 (l : List Ev) (x : Fl) (hl : l.length ≤ 1000) : PPure Try.prog 39 [.list .any (l.map encEv), encFl x] (.int .i64 (feF l x)) := by
  have h1 := p53 x.reached 0 l.length
  simp only [encFl]
  cases hre : btw x.reached 0 l.length with
  | false =>
    rw [hre] at h1
    have e0 : feF l x = 2 := by rw [feF, if_pos hre]
    rw [e0]
    (refine ppure_of_T ok39 (by simp only [List.length_cons, List.length_nil]; decide) ?_; refine t_seq ?_)
    (have hA := True.intro; have hP := And.intro h1 (True.intro); have hNE := True.intro; have hC := True.intro; repeat' first
        | ((with_reducible apply te_drwA); (focus (simp (maxDischargeDepth := 8) only [effFlA, List.map_cons, List.map_nil]; exact rfl)); (focus decide +kernel))
        | with_reducible first | refine k_seq ?_ | refine t_seq ?_ | refine t_reg ?_ | refine t_nil ?_ | refine t_ret ?_ | refine k_seq_ret ?_ | refine m_nil ?_
        | refine ae_val ?_
        | refine be_val ?_
        | refine be_callS ?_
        | refine be_gval ?_
        | refine be_gno ?_
        | refine ae_box ?_
        | refine a_cond ?_ ?_
        | (with_reducible intro hc; with_reducible exact Bool.noConfusion hc)
        | (with_reducible intro hc; have hC := And.intro hC hc))
    (first | apply pend rs39 | apply pendN rs39); (focus (simp (maxDischargeDepth := 8) only [hNE, go_sem]; first | done | exact rfl)); (focus (simp (maxDischargeDepth := 8) only [hNE, go_sem]; first | done | exact rfl))
  | true =>
    rw [hre] at h1
    have hre2 := hre
    rw [btw_true] at hre2
    obtain ⟨r, hr⟩ : ∃ r : Nat, x.reached = (r : Int) := ⟨x.reached.toNat, by omega⟩
    have hr2 : x.reached.toNat = r := by omega
    have h2 := p80 l r hl (by omega)
    obtain ⟨S, hS⟩ : ∃ S, syncL (l.take r) 0 0 = S := ⟨_, rfl⟩
    rw [hS] at h2
    have hSx : syncL (l.take x.reached.toNat) 0 0 = S := by rw [hr2, hS]
    have h3 := p53 x.kept S r
    rw [hr] at h1
    cases hke : btw x.kept S r with
    | false =>
      rw [hke] at h3
      have e0 : feF l x = 2 := by rw [feF, if_neg (by rw [hre]; simp), hSx, hr, if_pos hke]
      rw [e0, hr]
      (refine ppure_of_T ok39 (by simp only [List.length_cons, List.length_nil]; decide) ?_; refine t_seq ?_)
      (have hA := True.intro; have hP := And.intro h1 (And.intro h2 (And.intro h3 (True.intro))); have hNE := True.intro; have hC := True.intro; repeat' first
          | ((with_reducible apply te_drwA); (focus (simp (maxDischargeDepth := 8) only [effFlA, List.map_cons, List.map_nil]; exact rfl)); (focus decide +kernel))
          | with_reducible first | refine k_seq ?_ | refine t_seq ?_ | refine t_reg ?_ | refine t_nil ?_ | refine t_ret ?_ | refine k_seq_ret ?_ | refine m_nil ?_
          | refine ae_val ?_
          | refine be_val ?_
          | refine be_callS ?_
          | refine be_gval ?_
          | refine be_gcallS ?_
          | refine ae_box ?_
          | refine a_cond ?_ ?_
          | (with_reducible intro hc; with_reducible exact Bool.noConfusion hc)
          | (with_reducible intro hc; have hC := And.intro hC hc))
      (first | apply pend rs39 | apply pendN rs39); (focus (simp (maxDischargeDepth := 8) only [hNE, go_sem]; first | done | exact rfl)); (focus (simp (maxDischargeDepth := 8) only [hNE, go_sem]; first | done | exact rfl))
    | true =>
      rw [hke] at h3
      have hke2 := hke
      rw [btw_true] at hke2
      obtain ⟨k, hk⟩ : ∃ k : Nat, x.kept = (k : Int) := ⟨x.kept.toNat, by omega⟩
      have hk2 : x.kept.toNat = k := by omega
      have e0 : feF l x = if btw x.part 0 (partR l x) = false then 2 else 0 := by rw [feF, if_neg (by rw [hre]; simp), hSx, hr, if_neg (by rw [hke]; simp)]
      have h4 := p53 x.part 0 (partR l x)
      rw [e0, hr]
      rw [hk] at h3 ⊢
      have d1 : (0 : Int) ≤ (k : Int) := by omega
      by_cases hkl : k < l.length
      · obtain ⟨N, hN, hdr⟩ := at_list (xs := l) (i := k) hkl
        have d3 : decide ((k : Int) < (l.length : Int)) = true := by simp; omega
        have d4 : (k : Int) < (l.length : Int) := by omega
        have hp : partR l x = N.bytes.length := by rw [partR, hk2, hN]; rfl
        rw [hp] at h4 ⊢
        cases hb : btw x.part 0 N.bytes.length with
        | true =>
          rw [hb] at h4
          (refine ppure_of_T ok39 (by simp only [List.length_cons, List.length_nil]; decide) ?_; refine t_seq ?_)
          (have hA := And.intro d1 (And.intro d3 (And.intro d4 (hN))); have hP := And.intro h1 (And.intro h2 (And.intro h3 (And.intro h4 (True.intro)))); have hNE := True.intro; have hC := True.intro; repeat' first
              | ((with_reducible apply te_drwA); (focus (simp (maxDischargeDepth := 8) only [effFlA, List.map_cons, List.map_nil]; exact rfl)); (focus decide +kernel))
              | with_reducible first | refine k_seq ?_ | refine t_seq ?_ | refine t_reg ?_ | refine t_nil ?_ | refine t_skip ?_ | refine t_ret ?_ | refine m_nil ?_
              | refine ae_val ?_
              | refine ae_callS ?_
              | refine be_val ?_
              | refine be_callS ?_
              | refine be_gval ?_
              | refine be_gcallS ?_
              | refine ae_box ?_
              | refine a_cond ?_ ?_
              | (with_reducible intro hc; with_reducible exact Bool.noConfusion hc)
              | (with_reducible intro hc; have hC := And.intro hC hc))
          (first | apply pend rs39 | apply pendN rs39); (focus (simp (maxDischargeDepth := 8) only [hNE, go_sem]; first | done | exact rfl)); (focus (simp (maxDischargeDepth := 8) only [hNE, go_sem]; first | done | exact rfl))
        | false =>
          rw [hb] at h4
          (refine ppure_of_T ok39 (by simp only [List.length_cons, List.length_nil]; decide) ?_; refine t_seq ?_)
          (have hA := And.intro d1 (And.intro d3 (And.intro d4 (hN))); have hP := And.intro h1 (And.intro h2 (And.intro h3 (And.intro h4 (True.intro)))); have hNE := True.intro; have hC := True.intro; repeat' first
              | ((with_reducible apply te_drwA); (focus (simp (maxDischargeDepth := 8) only [effFlA, List.map_cons, List.map_nil]; exact rfl)); (focus decide +kernel))
              | with_reducible first | refine k_seq ?_ | refine t_seq ?_ | refine t_reg ?_ | refine t_nil ?_ | refine t_skip ?_ | refine t_ret ?_ | refine k_seq_ret ?_ | refine m_nil ?_
              | refine ae_val ?_
              | refine ae_callS ?_
              | refine be_val ?_
              | refine be_callS ?_
              | refine be_gval ?_
              | refine be_gcallS ?_
              | refine ae_box ?_
              | refine a_cond ?_ ?_
              | (with_reducible intro hc; with_reducible exact Bool.noConfusion hc)
              | (with_reducible intro hc; have hC := And.intro hC hc))
          (first | apply pend rs39 | apply pendN rs39); (focus (simp (maxDischargeDepth := 8) only [hNE, go_sem]; first | done | exact rfl)); (focus (simp (maxDischargeDepth := 8) only [hNE, go_sem]; first | done | exact rfl))
      · have d3 : decide ((k : Int) < (l.length : Int)) = false := by simp; omega
        have hp : partR l x = 0 := by rw [partR, hk2, List.getElem?_eq_none (by omega)]; rfl
        rw [hp] at h4 ⊢
        rw [cast0] at h4
        cases hb : btw x.part 0 0 with
        | true =>
          rw [hb] at h4
          (refine ppure_of_T ok39 (by simp only [List.length_cons, List.length_nil]; decide) ?_; refine t_seq ?_)
          (have hA := And.intro d1 (d3); have hP := And.intro h1 (And.intro h2 (And.intro h3 (And.intro h4 (True.intro)))); have hNE := True.intro; have hC := True.intro; repeat' first
              | ((with_reducible apply te_drwA); (focus (simp (maxDischargeDepth := 8) only [effFlA, List.map_cons, List.map_nil]; exact rfl)); (focus decide +kernel))
              | with_reducible first | refine k_seq ?_ | refine t_seq ?_ | refine t_reg ?_ | refine t_nil ?_ | refine t_skip ?_ | refine t_ret ?_ | refine m_nil ?_
              | refine ae_val ?_
              | refine ae_callS ?_
              | refine be_val ?_
              | refine be_callS ?_
              | refine be_gval ?_
              | refine be_gcallS ?_
              | refine ae_box ?_
              | refine a_cond ?_ ?_
              | (with_reducible intro hc; with_reducible exact Bool.noConfusion hc)
              | (with_reducible intro hc; have hC := And.intro hC hc))
          (first | apply pend rs39 | apply pendN rs39); (focus (simp (maxDischargeDepth := 8) only [hNE, go_sem, cast0, hb]; first | done | exact rfl)); (focus (simp (maxDischargeDepth := 8) only [hNE, go_sem, cast0, hb]; first | done | exact rfl))
        | false =>
          rw [hb] at h4
          (refine ppure_of_T ok39 (by simp only [List.length_cons, List.length_nil]; decide) ?_; refine t_seq ?_)
          (have hA := And.intro d1 (d3); have hP := And.intro h1 (And.intro h2 (And.intro h3 (And.intro h4 (True.intro)))); have hNE := True.intro; have hC := True.intro; repeat' first
              | ((with_reducible apply te_drwA); (focus (simp (maxDischargeDepth := 8) only [effFlA, List.map_cons, List.map_nil]; exact rfl)); (focus decide +kernel))
              | with_reducible first | refine k_seq ?_ | refine t_seq ?_ | refine t_reg ?_ | refine t_nil ?_ | refine t_skip ?_ | refine t_ret ?_ | refine k_seq_ret ?_ | refine m_nil ?_
              | refine ae_val ?_
              | refine ae_callS ?_
              | refine be_val ?_
              | refine be_callS ?_
              | refine be_gval ?_
              | refine be_gcallS ?_
              | refine ae_box ?_
              | refine a_cond ?_ ?_
              | (with_reducible intro hc; with_reducible exact Bool.noConfusion hc)
              | (with_reducible intro hc; have hC := And.intro hC hc))
          (first | apply pend rs39 | apply pendN rs39); (focus (simp (maxDischargeDepth := 8) only [hNE, go_sem, cast0, hb]; first | done | exact rfl)); (focus (simp (maxDischargeDepth := 8) only [hNE, go_sem, cast0, hb]; first | done | exact rfl))
theorem evV_drop : ∀ (l : List Ev) (s : List UInt8) (k : Nat), EvV s.length l → EvV (wrF s (l.take k)).length (l.drop k)
  | l, s, 0, h => h
  | [], s, k + 1, h => trivial
  | y :: l, s, k + 1, h => by
    obtain ⟨h1, h2⟩ := h
    obtain ⟨g1, g2, g3⟩ := sizeF_le h1
    rw [g2, ← aft_len g1] at h2
    rw [List.take_succ_cons, List.drop_succ_cons, wrF, List.foldl_cons]
    exact evV_drop l _ k h2
theorem partR_eq {s : List UInt8} {l : List Ev} {x : Fl} (hv : EvV s.length l) (h : True) : partR l x = (nextB l x).length := by
  unfold partR nextB nextE
  cases hg : l[x.kept.toNat]? with
  | none => rfl
  | some N =>
    have he := evE_zero (wr_at l s _ N hv hg)
    simp only [Option.map_some, Option.getD_some]
    split
    · rfl
    · rename_i hk
      obtain ⟨h1, h2, _⟩ := he
      unfold ev2B at h2
      have : N.bytes = [] := by simp [hk] at h2; exact h2.1
      rw [this]
theorem failF_err {s : List UInt8} {l : List Ev} {x : Fl} (h : (chkF s l).2 = 0) : (failF s l x).2 = feF l x ∧ (feF l x ≠ 0 → (failF s l x).1 = []) := by
  obtain ⟨g1, g2, g3⟩ := chkF_zero h
  unfold failF feF
  rw [if_neg (by simpa using h), partR_eq (x := x) g3 trivial]
  split
  · exact ⟨rfl, fun _ => rfl⟩
  · split
    · exact ⟨rfl, fun _ => rfl⟩
    · split
      · exact ⟨rfl, fun _ => rfl⟩
      · split
        · exact ⟨rfl, fun h => absurd rfl h⟩
        · exact ⟨rfl, fun h => absurd rfl h⟩
attribute [local go_sem] cast0 encEv Int.toNat_natCast List.getElem?_map Option.map_some in
set_option maxHeartbeats 2000000 in
theorem p40 (s : List UInt8) (l : List Ev) (x : Fl) (hl : l.length ≤ 1000) (hb : ∀ x ∈ l, x.bytes.length ≤ 140737488355328) (hc0 : (chkF s l).2 = 0) (hf : feF l x = 0) :
    PPure Try.prog 40 [.str s, .list .any (l.map encEv), encFl x] (.str (failF s l x).1) := by
  obtain ⟨g1, g2, g3⟩ := chkF_zero hc0
  have hfe := hf
  unfold feF at hfe
  split at hfe
  · cases hfe
  rename_i hre
  split at hfe
  · cases hfe
  rename_i hke
  split at hfe
  · cases hfe
  rename_i hpt
  have hre : btw x.reached 0 l.length = true := by simpa using hre
  have hke : btw x.kept (syncL (l.take x.reached.toNat) 0 0) x.reached = true := by simpa using hke
  have hpt : btw x.part 0 (partR l x) = true := by simpa using hpt
  have hpt2 := hpt
  rw [partR_eq (x := x) g3 trivial] at hpt2
  have hre2 := hre; have hke2 := hke; have hpt3 := hpt
  rw [btw_true] at hre2 hke2 hpt3
  obtain ⟨k, hk⟩ : ∃ k : Nat, x.kept = (k : Int) := ⟨x.kept.toNat, by omega⟩
  have hk2 : x.kept.toNat = k := by omega
  obtain ⟨pt, hp⟩ : ∃ pt : Nat, x.part = (pt : Int) := ⟨x.part.toNat, by omega⟩
  have hp2 : x.part.toNat = pt := by omega
  have e0 : failF s l x = if 0 < x.part then (aftF (wrF s (l.take k)) { nextE l x with bytes := (nextB l x).take pt }, 0) else (wrF s (l.take k), 0) := by
    simp only [failF, hc0, hre, hke, hpt2, hk2, hp2, ne_eq, not_true_eq_false, if_false, Bool.true_eq_false]
  have h1 := p38 s (l.take k) g1 (by simp; omega) (EvV_take _ _ _ g3) (fun y hy => hb y (List.mem_of_mem_take hy))
  have d1 : (0 : Int) ≤ (k : Int) := by omega
  have d2 : (k : Int) ≤ (l.length : Int) := by omega
  rw [e0]
  by_cases hp0 : pt = 0
  · subst hp0
    rw [if_neg (by omega)]
    simp only [encFl, hk, hp]
    (refine ppure_of_T ok40 (by simp only [List.length_cons, List.length_nil]; decide) ?_; refine t_seq ?_)
    (have hA := And.intro d1 (d2); have hP := And.intro h1 (True.intro); have hNE := True.intro; have hC := True.intro; repeat' first
        | with_reducible first | refine k_seq ?_ | refine t_seq ?_ | refine t_reg ?_ | refine t_nil ?_ | refine t_ret ?_ | refine k_seq_ret ?_
        | refine ae_val ?_
        | refine ae_callS ?_
        | refine ae_box ?_
        | refine a_cond ?_ ?_
        | (with_reducible intro hc; with_reducible exact Bool.noConfusion hc)
        | (with_reducible intro hc; have hC := And.intro hC hc))
    (first | apply pend rs40 | apply pendN rs40); (focus (simp (maxDischargeDepth := 8) only [hNE, go_sem]; first | done | exact rfl)); (focus (simp (maxDischargeDepth := 8) only [hNE, go_sem]; first | done | exact rfl))
  · rw [if_pos (by omega)]
    have ep : decide ((pt : Int) = 0) = false := by simp; omega
    have hkl : k < l.length := by
      rcases Nat.lt_or_ge k l.length with h | h
      · exact h
      · exfalso
        have : partR l x = 0 := by rw [partR, hk2, List.getElem?_eq_none h]; rfl
        omega
    obtain ⟨N, hN, hdr⟩ := at_list (xs := l) (i := k) hkl
    have hnx : nextE l x = N := by rw [nextE, hk2, hN]; rfl
    have hpl : partR l x = N.bytes.length := by rw [partR, hk2, hN]; rfl
    have hkd : N.kind = 0 := by
      have he := evE_zero (wr_at l s _ N g3 hN)
      obtain ⟨q1, q2, _⟩ := he
      unfold ev2B at q2
      rcases Decidable.em (N.kind = 0) with h | h
      · exact h
      · have : N.bytes = [] := by simp [h] at q2; exact q2.1
        rw [this] at hpl; simp at hpl; omega
    have hnb : nextB l x = N.bytes := by rw [nextB, hnx, if_pos hkd]
    have hev := evE_cut (m := pt) (wr_at l s k N g3 hN) (by omega) hkd
    have hwl := wrF_len _ _ g1 (EvV_take _ _ k g3)
    have hNb := hb N (List.mem_of_getElem? hN)
    generalize hW : wrF s (l.take k) = W at h1 hev hwl ⊢
    have h2 := p38 W [{ N with bytes := N.bytes.take pt }] hwl (by simp) ⟨by
        have := aft_len hev
        rw [sizeF, if_pos hev]
        show rfs _ 8 = 0
        rw [rfs_zero (by decide)]
        have ek : sizeN W.length { N with bytes := N.bytes.take pt } ≤ 20000 := by
          have h5 : EvV W.length (l.drop k) := by
            rw [← hW]; clear h1 hev hwl this e0
            exact evV_drop l s k g3
          rw [hdr] at h5
          have := (sizeF_le h5.1).2.2
          have h6 : sizeN W.length { N with bytes := N.bytes.take pt } ≤ sizeN W.length N := by
            simp only [sizeN, hkd, if_true, List.length_take]; omega
          omega
        simp <;> omega, trivial⟩ (fun y hy => by simp at hy; subst hy; simp <;> omega)
    have e1 : wrF W [{ N with bytes := N.bytes.take pt }] = aftF W { N with bytes := N.bytes.take pt } := rfl
    rw [e1] at h2
    rw [hnx, hnb]
    generalize aftF W { N with bytes := N.bytes.take pt } = A at h2 ⊢
    have d4 : (k : Int) < (l.length : Int) := by omega
    have c3 : (0 : Int) ≤ (pt : Int) := by omega
    have c4 : (pt : Int) ≤ (N.bytes.length : Int) := by omega
    simp only [encFl, hk, hp, encEv, List.map_cons, List.map_nil] at h2 ⊢
    (refine ppure_of_T ok40 (by simp only [List.length_cons, List.length_nil]; decide) ?_; refine t_seq ?_)
    (have hA := And.intro d1 (And.intro d2 (And.intro d4 (And.intro ep (And.intro hN (And.intro c3 (c4)))))); have hP := And.intro h1 (And.intro h2 (True.intro)); have hNE := True.intro; have hC := True.intro; repeat' first
        | with_reducible first | refine k_seq ?_ | refine t_seq ?_ | refine t_reg ?_ | refine t_nil ?_ | refine t_skip ?_ | refine t_ret ?_
        | refine ae_val ?_
        | refine ae_callS ?_
        | refine ae_box ?_
        | (refine ae_alloc ?_; intro la ha hn1; have hNE := And.intro hNE hn1)
        | refine ae_store ?_
        | refine a_cond ?_ ?_
        | (with_reducible intro hc; with_reducible exact Bool.noConfusion hc)
        | (with_reducible intro hc; have hC := And.intro hC hc))
    (first | apply pend rs40 | apply pendN rs40); (focus (simp (maxDischargeDepth := 8) only [hNE, go_sem]; first | done | exact rfl)); (focus (simp (maxDischargeDepth := 8) only [hNE, go_sem]; first | done | exact rfl))
end Go.Proofs.Ythdgdngdfijfhaa
namespace Go.Proofs.Ythdgdngdfijfhaa
open Go.RowKit Go.Proofs
set_option linter.unusedVariables false
set_option linter.unusedSimpArgs false
attribute [local irreducible] PPure CallN Tops TopsDm T
def acts0 : List Ac := [⟨1, 0, [65, 66]⟩, ⟨1, 0, []⟩, ⟨4, 0, []⟩]
def u1 : Un := ⟨0, 0, [[65, 66], []], [], [], true, 3⟩
theorem run0 : runG zeU acts0 = (((u1, [⟨0, [], 0⟩, ⟨0, [], 0⟩, ⟨0, [], 0⟩]), 3), 0) := by kernel_rfl
def s0 : List UInt8 := (bytesG u1).1
theorem bytes0 : (bytesG u1).2 = 0 := by kernel_rfl
theorem len0 : (s0.length : Int) = 26 := by kernel_rfl
theorem done0 : (doneG u1 ⟨0, 0, []⟩).2 = 0 ∧ (doneG u1 ⟨0, 0, []⟩).1.2.status = 1 := ⟨by kernel_rfl, by kernel_rfl⟩
theorem open0 : (openF 0 0 s0).2 = 0 ∧ (openF 0 0 s0).1.2 = 0 ∧ (openF 0 0 s0).1.1.ended = true ∧ (openF 0 0 s0).1.1.recs = [[65, 66], []] := ⟨by kernel_rfl, by kernel_rfl, by kernel_rfl, by kernel_rfl⟩
theorem sum0 : ((sumF [82, 0, 0, 0] : Nat) : Int) = 92 := by kernel_rfl
theorem p49 : PPure Try.prog 49 [] (.list .any (acts0.map encAc)) := by
  simp only [acts0, List.map_cons, List.map_nil, encAc]
  (refine ppure_of_T ok49 (by simp only [List.length_cons, List.length_nil]; decide) ?_; refine t_seq ?_)
  (have hA := True.intro; have hP := True.intro; have hNE := True.intro; have hC := True.intro; repeat' first
      | with_reducible first | refine k_seq ?_ | refine t_seq ?_ | refine t_reg ?_ | refine t_nil ?_ | refine t_ret ?_
      | refine ae_val ?_)
  (first | apply pend rs49 | apply pendN rs49); (focus (simp only [go_sem]; first | done | exact rfl)); (focus (simp only [go_sem]; first | done | exact rfl))
attribute [local go_sem] List.length_cons List.length_nil in
set_option maxHeartbeats 2000000 in
theorem p11 : PPure Try.prog 11 [] (.bool true) := by
  have h49 := p49
  have h24 := p24 zeU acts0 (by decide) (by decide) (by decide)
  rw [run0] at h24
  have h13 := p13 u1 (by decide) (by decide)
  rw [bytes0] at h13
  have h29 := p29 u1 ⟨0, 0, []⟩ (by decide) (by decide)
  obtain ⟨d1, d2⟩ := done0
  rw [d1] at h29
  obtain ⟨o1, o2, o3, o4⟩ := open0
  have hs0 : (bytesG u1).1 = s0 := rfl
  rw [hs0] at h13
  have h17 := p17' 0 0 s0 (by have := len0; omega)
  rw [o1, o2] at h17
  have h21 := p21 [82, 0, 0, 0] (by decide)
  rw [if_pos (by decide), if_pos (by decide), sum0] at h21
  have h47 := p47 [[65, 66], []] [[65, 66], []] (by decide)
  rw [show (([[65, 66], []] : List (List UInt8)) == [[65, 66], []]) = true from rfl] at h47
  have hl := len0
  generalize s0 = s at h13 h17 hl o3 o4
  generalize (doneG u1 ⟨0, 0, []⟩).1 = q at h29 d2
  generalize (openF 0 0 s).1.1 = v at h17 o3 o4
  simp only [encU, encAc, encAn, acts0, List.map_cons, List.map_nil, d2, o3, o4, encS, zeU, u1] at h49 h24 h13 h29 h17 h47
  (refine ppure_of_T ok11 (by simp only [List.length_cons, List.length_nil]; decide) ?_; refine t_seq ?_)
  (have hA := hl; have hP := And.intro h49 (And.intro h24 (And.intro h13 (And.intro h29 (And.intro h17 (And.intro h21 (And.intro h47 (True.intro))))))); have hNE := True.intro; have hC := True.intro; repeat' first
      | with_reducible first | refine k_seq ?_ | refine t_seq ?_ | refine t_reg ?_ | refine t_nil ?_ | refine t_ret ?_
      | refine ae_val ?_
      | refine ae_callS ?_
      | refine ae_gval ?_
      | refine ae_gcallO ?_
      | (refine ae_alloc ?_; intro la ha hn1; have hNE := And.intro hNE hn1)
      | refine ae_store ?_)
  (first | apply pend rs11 | apply pendN rs11); (focus (simp (maxDischargeDepth := 8) only [hNE, go_sem]; first | done | exact rfl)); (focus (simp (maxDischargeDepth := 8) only [hNE, go_sem]; first | done | exact rfl))
end Go.Proofs.Ythdgdngdfijfhaa
namespace Go.Proofs.Ythdgdngdfijfhaa
open Go.RowKit Go.Proofs
set_option linter.unusedVariables false
set_option linter.unusedSimpArgs false
attribute [local irreducible] PPure CallN Tops TopsDm T
attribute [local go_sem] encEv Int.toNat_natCast List.getElem?_map Option.map_some beq_self_eq_true in
set_option maxHeartbeats 4000000 in
theorem law7 (s : List UInt8) (l : List Ev) (x : Fl) : PPure Try.prog 7 [.str s, .list .any (l.map encEv), encFl x] (.bool true) := by
  have h0 := p11
  simp only [encFl]
  by_cases g1 : decide ((1000 : Int) < (s.length : Int)) = true
  · (refine ppure_of_T ok7 (by simp only [List.length_cons, List.length_nil]; decide) ?_; refine t_seq ?_)
    (have hA := g1; have hP := And.intro h0 (True.intro); have hNE := True.intro; have hC := True.intro; repeat' first
        | with_reducible first | refine k_seq ?_ | refine t_seq ?_ | refine t_reg ?_ | refine t_nil ?_ | refine t_skip ?_ | refine t_ret ?_ | refine k_seq_ret ?_
        | refine ae_val ?_
        | refine ae_callS ?_
        | refine ae_gval ?_
        | refine ae_box ?_
        | refine a_cond ?_ ?_
        | (with_reducible intro hc; with_reducible exact Bool.noConfusion hc)
        | (with_reducible intro hc; have hC := And.intro hC hc))
    (first | apply pend rs7 | apply pendN rs7); (focus (simp (maxDischargeDepth := 8) only [hNE, go_sem]; first | done | exact rfl)); (focus (simp (maxDischargeDepth := 8) only [hNE, go_sem]; first | done | exact rfl))
  have g1 : decide ((1000 : Int) < (s.length : Int)) = false := by simpa using g1
  by_cases g2 : decide ((30 : Int) < (l.length : Int)) = true
  · (refine ppure_of_T ok7 (by simp only [List.length_cons, List.length_nil]; decide) ?_; refine t_seq ?_)
    (have hA := And.intro g1 (g2); have hP := And.intro h0 (True.intro); have hNE := True.intro; have hC := True.intro; repeat' first
        | with_reducible first | refine k_seq ?_ | refine t_seq ?_ | refine t_reg ?_ | refine t_nil ?_ | refine t_skip ?_ | refine t_ret ?_ | refine k_seq_ret ?_
        | refine ae_val ?_
        | refine ae_callS ?_
        | refine ae_gval ?_
        | refine ae_box ?_
        | refine a_cond ?_ ?_
        | (with_reducible intro hc; with_reducible exact Bool.noConfusion hc)
        | (with_reducible intro hc; have hC := And.intro hC hc))
    (first | apply pend rs7 | apply pendN rs7); (focus (simp (maxDischargeDepth := 8) only [hNE, go_sem]; first | done | exact rfl)); (focus (simp (maxDischargeDepth := 8) only [hNE, go_sem]; first | done | exact rfl))
  have g2 : decide ((30 : Int) < (l.length : Int)) = false := by simpa using g2
  have hsl : s.length ≤ 1000 := by simp at g1; omega
  have hl : l.length ≤ 30 := by simp at g2; omega
  (refine ppure_of_T ok7 (by simp only [List.length_cons, List.length_nil]; decide) ?_; refine t_seq ?_)
  (have hA := And.intro g1 (g2); have hP := And.intro h0 (True.intro); have hNE := True.intro; have hC := True.intro; repeat' first
      | with_reducible first | refine k_seq ?_ | refine t_seq ?_ | refine t_reg ?_ | refine t_nil ?_ | refine t_skip ?_ | refine t_block ?_
      | refine ae_val ?_
      | refine ae_callS ?_
      | refine ae_gval ?_
      | refine ae_box ?_
      | refine a_cond ?_ ?_
      | (with_reducible intro hc; with_reducible exact Bool.noConfusion hc)
      | (with_reducible intro hc; have hC := And.intro hC hc))
  refine t_loopX (fun (k0 : Nat) (E0 : Nat → PV) (H0 : Hp) => ∃ (i : Nat), i + k0 = l.length ∧ (∀ y ∈ l.take i, y.bytes.length ≤ 300) ∧ E0 7 = .int .i64 (i : Int) ∧ H0 = hp []) (l.length) ?_ ?_
  intro Ng
  refine ⟨_, _, wkE_id, rowsok_nil, 0, (by first | omega | rfl | assumption | (simp (maxDischargeDepth := 8) only [go_sem, cast0, hNE]; first | done | rfl | assumption | omega)), ?_, (by simp (maxDischargeDepth := 8) only [go_sem, cast0, hNE, List.length_append, List.length_cons, List.length_nil, Nat.zero_add]; first | done | rfl), rfl⟩
  · intro y hy; simp at hy
  rintro k0 E0 H0 hfr0 ⟨i, hk, hr, h0_7, rfl⟩
  have e0_0 := hfr0 0 rfl; have e0_1 := hfr0 1 rfl; have e0_5 := hfr0 5 rfl
  simp (maxDischargeDepth := 8) only [go_sem, cast0, hNE] at e0_0 e0_1 e0_5
  clear hfr0
  by_cases hi : i < l.length
  · obtain ⟨y, hx, hdr⟩ := at_list hi
    have hlt := lt_int hi
    have hw := wrap_next hi (by omega)
    have hge : (0 : Int) ≤ (i : Int) := by omega
    by_cases hb : (300 : Int) < (y.bytes.length : Int)
    · have hb2 : decide ((300 : Int) < (y.bytes.length : Int)) = true := by simpa using hb
      (have hA := And.intro e0_0 (And.intro e0_1 (And.intro e0_5 (And.intro h0_7 (And.intro hlt (And.intro hge (And.intro hx (hb2))))))); have hP := True.intro; have hNE := True.intro; have hC := True.intro; repeat' first
          | with_reducible first | refine k_seq ?_ | refine t_seq ?_ | refine t_reg ?_ | refine t_nil ?_ | refine t_skip ?_ | refine t_ret ?_ | refine k_seq_ret ?_ | refine k_blk_ret ?_ | refine k_invX_ret ?_ | refine t_block ?_
          | refine ae_val ?_
          | refine a_cond ?_ ?_
          | (with_reducible intro hc; with_reducible exact Bool.noConfusion hc)
          | (with_reducible intro hc; have hC := And.intro hC hc))
      (first | apply pend rs7 | apply pendN rs7); (focus (simp (maxDischargeDepth := 8) only [hNE, go_sem, e0_0, e0_1, e0_5, h0_7]; first | done | exact rfl)); (focus (simp (maxDischargeDepth := 8) only [hNE, go_sem, e0_0, e0_1, e0_5, h0_7]; first | done | exact rfl))
    · have hb2 : decide ((300 : Int) < (y.bytes.length : Int)) = false := by simpa using hb
      (have hA := And.intro e0_0 (And.intro e0_1 (And.intro e0_5 (And.intro h0_7 (And.intro hlt (And.intro hge (And.intro hx (hb2))))))); have hP := True.intro; have hNE := True.intro; have hC := True.intro; repeat' first
          | with_reducible first | refine k_seq ?_ | refine t_seq ?_ | refine t_reg ?_ | refine t_nil ?_ | refine t_skip ?_ | refine k_blk ?_ | refine t_block ?_
          | refine ae_val ?_
          | refine a_cond ?_ ?_
          | (with_reducible intro hc; with_reducible exact Bool.noConfusion hc)
          | (with_reducible intro hc; have hC := And.intro hC hc))
      refine k_invX (k0 - 1) (by omega) ?_
      intro Ng
      refine ⟨_, _, wkE_id, rowsok_nil, i + 1, (by first | omega | (simp only [List.length_append, List.length_cons, List.length_nil, List.length_drop, List.length_take, List.length_map]; omega)), ?_, (by simp (maxDischargeDepth := 8) only [go_sem, e0_0, e0_1, e0_5, h0_7, hw, hNE, List.length_append, List.length_cons, List.length_nil, Nat.zero_add]; first | done | rfl), rfl⟩
      intro z hz
      rw [List.take_add_one, hx] at hz
      rcases List.mem_append.1 hz with hz | hz
      · exact hr z hz
      · simp at hz; subst hz; omega
  have hlt := nlt_int hi
  rw [List.take_of_length_le (by omega)] at hr
  have hb : ∀ y ∈ l, y.bytes.length ≤ 140737488355328 := fun y hy => by have := hr y hy; omega
  have hs : s.length ≤ 140737488355328 := by omega
  have h34 := p34 l (by omega)
  have h33 := p33 s l hs (by omega) hb
  have h35 := p35 s l hs (by omega) hb
  have h36 := p36 s l x hs (by omega) hb
  have h37 := p37 s l hs (by omega) hb
  have ee : ∀ a : Int, decide (¬ a = a) = false := fun a => by simp
  have ee2 : ∀ a : Int, decide (a = a) = true := fun a => by simp
  by_cases hz : (chkF s l).2 = 0
  · have ez := dnz0 hz
    obtain ⟨q1, q2, q3⟩ := chkF_zero hz
    have hw0 : wrG s l = (wrF s l, 0) := by rw [wrG, if_pos hz]
    rw [hw0] at h35
    have h38 := p38 s l q1 (by omega) q3 hb
    have h39 := p39 l x (by omega)
    obtain ⟨f1, f2⟩ := failF_err (x := x) hz
    rw [f1] at h36
    by_cases hf : feF l x = 0
    · have h40 := p40 s l x (by omega) hb hz hf
      have ef := dnz0 hf
      rw [hf] at h36 h39
      simp only [encFl] at h36 h39 h40
      generalize (failF s l x).1 = A at h36 h40
      generalize wrF s l = B at h35 h38
      generalize chkF s l = C at h33 h37 ez hz
      (have hA := And.intro e0_0 (And.intro e0_1 (And.intro e0_5 (And.intro h0_7 (And.intro hlt (And.intro ee (And.intro ee2 (And.intro ez (And.intro ef (hz))))))))); have hP := And.intro h33 (And.intro h34 (And.intro h35 (And.intro h36 (And.intro h37 (And.intro h38 (And.intro h39 (And.intro h40 (True.intro)))))))); have hNE := True.intro; have hC := True.intro; repeat' first
          | ((with_reducible apply te_drwA); (focus (simp (maxDischargeDepth := 8) only [effFlA, List.map_cons, List.map_nil]; exact rfl)); (focus decide +kernel))
          | with_reducible first | refine k_seq ?_ | refine t_seq ?_ | refine t_reg ?_ | refine t_nil ?_ | refine t_skip ?_ | refine t_ret ?_ | refine t_exit ?_ | refine k_seq_exit ?_ | refine k_blk_exit ?_ | refine k_invX_exit ?_ | refine m_nil ?_
          | refine ae_val ?_
          | refine ae_callS ?_
          | refine ae_gval ?_
          | refine ae_gcallS ?_
          | refine be_val ?_
          | refine be_callS ?_
          | refine a_cond ?_ ?_
          | (with_reducible intro hc; with_reducible exact Bool.noConfusion hc)
          | (with_reducible intro hc; have hC := And.intro hC hc))
      (first | apply pend rs7 | apply pendN rs7); (focus (simp (maxDischargeDepth := 8) only [hNE, go_sem, e0_0, e0_1, e0_5, h0_7]; first | done | exact rfl)); (focus (simp (maxDischargeDepth := 8) only [hNE, go_sem, e0_0, e0_1, e0_5, h0_7]; first | done | exact rfl))
    · have ef := dnz1 hf
      rw [f2 hf] at h36
      simp only [encFl] at h36 h39
      generalize wrF s l = B at h35 h38
      generalize chkF s l = C at h33 h37 ez hz
      (have hA := And.intro e0_0 (And.intro e0_1 (And.intro e0_5 (And.intro h0_7 (And.intro hlt (And.intro ee (And.intro ee2 (And.intro ez (And.intro ef (hz))))))))); have hP := And.intro h33 (And.intro h34 (And.intro h35 (And.intro h36 (And.intro h37 (And.intro h38 (And.intro h39 (True.intro))))))); have hNE := True.intro; have hC := True.intro; repeat' first
          | ((with_reducible apply te_drwA); (focus (simp (maxDischargeDepth := 8) only [effFlA, List.map_cons, List.map_nil]; exact rfl)); (focus decide +kernel))
          | with_reducible first | refine k_seq ?_ | refine t_seq ?_ | refine t_reg ?_ | refine t_nil ?_ | refine t_skip ?_ | refine t_ret ?_ | refine t_exit ?_ | refine k_seq_exit ?_ | refine k_seq_ret ?_ | refine k_blk_exit ?_ | refine k_invX_exit ?_ | refine m_nil ?_
          | refine ae_val ?_
          | refine ae_callS ?_
          | refine ae_gval ?_
          | refine ae_gcallS ?_
          | refine be_val ?_
          | refine be_callS ?_
          | refine a_cond ?_ ?_
          | (with_reducible intro hc; with_reducible exact Bool.noConfusion hc)
          | (with_reducible intro hc; have hC := And.intro hC hc))
      (first | apply pend rs7 | apply pendN rs7); (focus (simp (maxDischargeDepth := 8) only [hNE, go_sem, e0_0, e0_1, e0_5, h0_7]; first | done | exact rfl)); (focus (simp (maxDischargeDepth := 8) only [hNE, go_sem, e0_0, e0_1, e0_5, h0_7]; first | done | exact rfl))
  · have ez := dnz1 hz
    have hw0 : wrG s l = ([], (chkF s l).2) := by rw [wrG, if_neg hz]
    have hf0 : failF s l x = ([], (chkF s l).2) := by rw [failF, if_pos hz]
    rw [hw0] at h35
    rw [hf0] at h36
    simp only [encFl] at h36
    generalize chkF s l = C at h33 h37 h35 h36 ez hz
    (have hA := And.intro e0_0 (And.intro e0_1 (And.intro e0_5 (And.intro h0_7 (And.intro hlt (And.intro ee (And.intro ee2 (ez))))))); have hP := And.intro h33 (And.intro h34 (And.intro h35 (And.intro h36 (And.intro h37 (True.intro))))); have hNE := True.intro; have hC := True.intro; repeat' first
        | ((with_reducible apply te_drwA); (focus (simp (maxDischargeDepth := 8) only [effFlA, List.map_cons, List.map_nil]; exact rfl)); (focus decide +kernel))
        | with_reducible first | refine k_seq ?_ | refine t_seq ?_ | refine t_reg ?_ | refine t_nil ?_ | refine t_skip ?_ | refine t_ret ?_ | refine t_exit ?_ | refine k_seq_exit ?_ | refine k_seq_ret ?_ | refine k_blk_exit ?_ | refine k_invX_exit ?_ | refine m_nil ?_
        | refine ae_val ?_
        | refine ae_callS ?_
        | refine ae_gval ?_
        | refine be_val ?_
        | refine be_callS ?_
        | refine a_cond ?_ ?_
        | (with_reducible intro hc; with_reducible exact Bool.noConfusion hc)
        | (with_reducible intro hc; have hC := And.intro hC hc))
    (first | apply pend rs7 | apply pendN rs7); (focus (simp (maxDischargeDepth := 8) only [hNE, go_sem, e0_0, e0_1, e0_5, h0_7]; first | done | exact rfl)); (focus (simp (maxDischargeDepth := 8) only [hNE, go_sem, e0_0, e0_1, e0_5, h0_7]; first | done | exact rfl))
end Go.Proofs.Ythdgdngdfijfhaa
namespace Go.Proofs.Ythdgdngdfijfhaa
open Go.ChangeShapes Go.WideShapes Go.ChangeAt Go.RowKit Go.Deep Go.Proofs
set_option linter.unusedVariables false
set_option linter.unusedSimpArgs false
def ptE : PT := .seq (.int .i64) (.seq (.int .i64) (.seq .str .unit))
def ptI : PT := .seq (.int .i64) (.seq (.int .i64) (.seq (.int .i64) .unit))
theorem tvEv (l : List PV) (h : TV ptE l) : ∃ a : Ev, PV.agg l = encEv a := by
  obtain ⟨_, _, rfl, ⟨a, rfl, _⟩, _, _, rfl, ⟨b, rfl, _⟩, _, _, rfl, ⟨c, rfl, hc⟩, rfl⟩ := h
  exact ⟨⟨a, b, c⟩, rfl⟩
theorem tvFl (l : List PV) (h : TV ptI l) : ∃ a : Fl, PV.agg l = encFl a := by
  obtain ⟨_, _, rfl, ⟨a, rfl, _⟩, _, _, rfl, ⟨b, rfl, _⟩, _, _, rfl, ⟨c, rfl, _⟩, rfl⟩ := h
  exact ⟨⟨a, b, c⟩, rfl⟩
theorem okT67 : okT Try.prog 9 67 (.list true ptE) = true := by kernel_rfl
theorem okT69 : okT Try.prog 9 69 ptI = true := by kernel_rfl
section
variable {H : Type} {enc : TypeId × Value → H} {w : World} {r : Reach} {b0 : Nat} {base : Nat} {sp : Nat → Bool} {held : Bool} {v : Value} {d : DataW H} {ps : List MemPlace}
set_option maxRecDepth 100000 in
theorem arg69 (hv : Value.okWide Try.prog w r b0 69 v) (h : DataW.Trod enc Try.prog w base sp held 69 v d ps) : ∃ a : Fl, VR w noO v (encFl a) := by
  obtain ⟨q, hT, hq⟩ := arg_struct (T := ptI) 9 Try.underlying69 okT69 hv h
  obtain ⟨p, e⟩ := tvFl q hT
  rw [e] at hq
  exact ⟨p, hq⟩
set_option maxRecDepth 100000 in
theorem arg67 (hv : Value.okWide Try.prog w r b0 67 v) (h : DataW.Trod enc Try.prog w base sp held 67 v d ps) : ∃ l : List Ev, VR w noO v (.list .any (l.map encEv)) := by
  obtain ⟨q, hT, hq⟩ := arg_slice (T := .list true ptE) 9 u_67 okT67 hv h
  obtain ⟨l, e, _⟩ := TV_rows tvEv hT
  obtain rfl : q = _ := by simpa using e
  exact ⟨l, hq⟩
set_option maxRecDepth 100000 in
theorem arg9 (hv : Value.okWide Try.prog w r b0 9 v) (h : DataW.Trod enc Try.prog w base sp held 9 v d ps) : ∃ s : List UInt8, s.length ≤ maxLen ∧ VR w noO v (.str s) := arg_str u_9 hv h
end
theorem ownKn : ownKnob Try.prog.godebug = none := by kernel_rfl
theorem laidOut : laidOutB Try.prog = true := by kernel_rfl
end Go.Proofs.Ythdgdngdfijfhaa
namespace Go.Proofs.Ythdgdngdfijfhaa
open Go.ChangeShapes Go.WideShapes Go.ChangeAt Go.RowKit Go.Proofs
set_option linter.unusedVariables false
set_option maxRecDepth 100000 in
theorem filesFails_lifted (os : Os) (started : os.Started) (H : Type) (enc : TypeId × Value → H) :
    ReturnsInHanded {} Try.checked os 7 .any (Rows.filesFailsSpec.pre6 enc Try.prog Try.f7 Rows.filesFailsRow.domain false) (Rows.filesFailsSpec.post enc Try.prog Try.f7 false true false false) := by
  refine returnsInHanded_of_change_sized (C := Try.checked) ownKn started (by kernel_rfl) Try.func7
    (ChangeSpec.witness6 (enc := enc) (C := Try.checked) false ⟨#[], #[.string ⟨#[]⟩, .slice none 0 0, .agg #[.int .i64 0, .int .i64 0, .int .i64 0]], []⟩ 8 (by kernel_rfl) (by kernel_rfl) (by kernel_rfl) (by kernel_rfl)) ?_
  intro W base args ds gs before hval0 hW hcnd hsz0 _
  have hval : ∀ (j : Nat) t v, Try.f7.params[j]? = some t → args[j]? = some v → Value.okWide Try.prog W .any base t v := hval0
  have hW' := hW
  obtain ⟨p, q, hA0, hV, rfl, hfz, hnd⟩ := hW
  have hA : DataW.TrodAll enc Try.prog W 0 (fun _ => true) true Try.f7.params.toList args.toList ds p := hA0
  rw [Try.params7] at hA hval
  obtain ⟨v0, vs0, d0, ds0, p0, q0, hargs, rfl, rfl, h0, r0⟩ := trodAll_cons hA
  obtain ⟨v1, vs1, d1, ds1, p1, q1, rfl, rfl, rfl, h1, r1⟩ := trodAll_cons r0
  obtain ⟨v2, vs2, d2, ds2, p2, q2, rfl, rfl, rfl, h2, r2⟩ := trodAll_cons r1
  obtain ⟨rfl, rfl, rfl⟩ := trodAll_nil r2
  obtain rfl : args = #[v0, v1, v2] := by cases args; simp_all
  obtain ⟨rfl, rfl⟩ := trodVars_none hV
  obtain ⟨s, hs0, w0⟩ := arg9 (hval 0 9 v0 rfl rfl) h0
  have k0 := h0
  have lt0 : ∀ x ∈ p0, x.block < W.heap.size := by obtain ⟨m, hm⟩ := k0; exact DataW.trod_lt m _ _ _ hm
  obtain ⟨l, w1⟩ := arg67 (hval 1 67 v1 rfl rfl) h1
  have k1 := h1
  have lt1 : ∀ x ∈ p1, x.block < W.heap.size := by obtain ⟨m, hm⟩ := k1; exact DataW.trod_lt m _ _ _ hm
  obtain ⟨x, w2⟩ := arg69 (hval 2 69 v2 rfl rfl) h2
  have k2 := h2
  have lt2 : ∀ x ∈ p2, x.block < W.heap.size := by obtain ⟨m, hm⟩ := k2; exact DataW.trod_lt m _ _ _ hm
  clear hA0 hval0 hsz0
  refine ((law7 s l x).law (.mk3 w0 w1 w2)).mono fun e W' ⟨he, bel⟩ => ?_
  subst he
  exact ⟨_, rfl, _, _, _, [], _, [], hW', trodAll_mk1 (shut_bool u_4 _), (trodAll_cons_mk (Below.trod laidOut (by kernel_rfl) (of_decide_eq_true (by kernel_rfl)) k0 bel lt0) (trodAll_cons_mk (Below.trod laidOut (by kernel_rfl) (of_decide_eq_true (by kernel_rfl)) k1 bel lt1) (trodAll_cons_mk (Below.trod laidOut (by kernel_rfl) (of_decide_eq_true (by kernel_rfl)) k2 bel lt2) trodAll_mk0))), rfl, bel.frame _, fun h => by cases h⟩
theorem filesFails_holds : Rows.FilesFailsSaid :=
  OpenClaim.holds_of_wide 7 Try.f7 rfl rfl rfl rfl rfl rfl rfl ⟨rfl, rfl, rfl, rfl, rfl⟩ rfl rfl rfl rfl rfl (by kernel_rfl) Try.func7 (by kernel_rfl)
    (of_decide_eq_true (by kernel_rfl)) (by unfold Func.isWrapper; first | (rw [if_pos (by decide +kernel)]; kernel_rfl) | (rw [if_neg (by decide +kernel)]; exact ⟨rfl, rfl⟩))
    (fun os started H enc _ => filesFails_lifted os started H enc)
#print axioms filesFails_holds
end Go.Proofs.Ythdgdngdfijfhaa
