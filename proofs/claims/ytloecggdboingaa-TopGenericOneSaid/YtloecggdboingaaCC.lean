/- Chapter 18: slices.Repeat of one number. -/
import Derived.Test.YtloecggdboingaaCB
import Derived.Test.YtloecggdboingaaFC
namespace Go.Proofs.Ytloecggdboingaa
open Go.RowKit Go.Proofs
set_option linter.unusedVariables false
set_option linter.unusedSimpArgs false
attribute [local irreducible] PPure

theorem wrap_u64' (n : Int) : IntKind.u64.wrap n = n % 18446744073709551616 := by
  simp [IntKind.wrap, IntKind.signed, IntKind.bits]
section
variable {P : Program} {t : TypeId}
theorem u64_and {n : Nat} (h : n < 4294967296) : pvBin P .and t (.int .u64 (n : Int)) (.int .u64 4294967295) = some (.int .u64 (n : Int)) := by
  simp only [pvBin, intBin, if_true]
  have : (BitVec.ofInt IntKind.u64.bits (n : Int) &&& BitVec.ofInt IntKind.u64.bits 4294967295).toNat = n := by
    show (BitVec.ofInt 64 (n : Int) &&& BitVec.ofInt 64 4294967295).toNat = n
    rw [BitVec.toNat_and]
    have e1 : (BitVec.ofInt 64 (n : Int)).toNat = n := by simp [BitVec.toNat_ofInt]; omega
    have e2 : (BitVec.ofInt 64 4294967295).toNat = 2 ^ 32 - 1 := by decide
    rw [e1, e2, Nat.and_two_pow_sub_one_eq_mod, Nat.mod_eq_of_lt (by simpa using h)]
  rw [this]
  have : IntKind.u64.wrap (n : Int) = n := by rw [wrap_u64']; omega
  rw [this]
theorem u64_shr {n : Nat} (h : n < 4294967296) : pvBin P .shr t (.int .u64 (n : Int)) (.int .u64 32) = some (.int .u64 0) := by
  rw [pv_shr, if_neg (by decide)]
  have : ((n : Int)).fdiv (2 ^ min (32 : Int).toNat IntKind.u64.bits) = 0 := by
    show ((n : Int)).fdiv (2 ^ 32) = 0
    rw [Int.fdiv_eq_ediv_of_nonneg _ (by decide)]; omega
  rw [this]
theorem u64_mul {a b : Nat} (h : a * b < 4294967296) : pvBin P .mul t (.int .u64 (a : Int)) (.int .u64 (b : Int)) = some (.int .u64 ((a * b : Nat) : Int)) := by
  rw [pv_mul, ← Int.natCast_mul]
  have : IntKind.u64.wrap ((a * b : Nat) : Int) = ((a * b : Nat) : Int) := by rw [wrap_u64']; omega
  rw [this]
end
theorem p111 (n : Nat) (h : n < 4294967296) : PPure Try.prog 111 [.int .u64 1, .int .u64 (n : Int)] (.tup [.int .u64 0, .int .u64 (n : Int)]) := by
  have a1 := fun (t : TypeId) => @u64_and Try.prog t 1 (by decide)
  have a0 := fun (t : TypeId) => @u64_and Try.prog t 0 (by decide)
  have an := fun (t : TypeId) => @u64_and Try.prog t n h
  have s1 := fun (t : TypeId) => @u64_shr Try.prog t 1 (by decide)
  have s0 := fun (t : TypeId) => @u64_shr Try.prog t 0 (by decide)
  have sn := fun (t : TypeId) => @u64_shr Try.prog t n h
  have w1 : IntKind.u64.wrap (1 * (n : Int)) = n := by rw [wrap_u64']; omega
  have w0 : IntKind.u64.wrap (0 * (n : Int)) = 0 := by rw [wrap_u64']; omega
  have w2 : IntKind.u64.wrap (1 * 0) = 0 := by decide
  have w3 : IntKind.u64.wrap (0 * 0) = 0 := by decide
  have w4 : IntKind.u64.wrap (0 + 0) = 0 := by decide
  simp only [show ((1 : Nat) : Int) = 1 from rfl, cast0] at a1 a0 s1 s0
  (refine ppure_of_T ok111 (by simp only [List.length_cons, List.length_nil]; decide) ?_; refine t_seq ?_)
  (have hNE := True.intro; have hC := True.intro; repeat' first
    | with_reducible refine k_seq ?_
    | with_reducible refine t_seq ?_
    | with_reducible refine t_reg ?_
    | with_reducible refine t_nil ?_
    | with_reducible refine t_ret ?_
    | ((with_reducible apply t_val); exact rfl; (intro _ _ _ h; cases h); (focus (simp only [go_sem, hNE, a1, a0, an, s1, s0, sn, w1, w0, w2, w3, w4]; first | done | exact rfl))))
  all_goals (apply pend rs111; (focus (simp only [go_sem, *]; first | done | exact rfl)); (focus (simp only [go_sem, *]; first | done | exact rfl | simp_all)))
theorem p105 (n : Nat) (h : n < 4294967296) : PPure Try.prog 105 [.int .u64 1, .int .u64 (n : Int)] (.tup [.int .u64 0, .int .u64 (n : Int)]) := by
  (refine ppure_of_T ok105 (by simp only [List.length_cons, List.length_nil]; decide) ?_; refine t_seq ?_)
  (have hNE := True.intro; have hC := True.intro; repeat' first
    | with_reducible refine k_seq ?_
    | with_reducible refine t_seq ?_
    | with_reducible refine t_reg ?_
    | with_reducible refine t_nil ?_
    | with_reducible refine t_skip ?_
    | with_reducible refine t_ret ?_
    | ((with_reducible apply t_val); exact rfl; (intro _ _ _ h; cases h); (focus (simp only [go_sem, hNE]; first | done | exact rfl)))
    | ((with_reducible apply t_callS); (focus (simp only [go_sem, hNE]; first | done | exact rfl)); (focus (simp only [go_sem, hNE]; first | done | exact rfl)); (focus (simp only [go_sem, hNE]; first | done | exact rfl)); (first | exact p111 n h))
    | ((with_reducible apply t_cond); (focus (simp only [go_sem, hNE]; first | done | exact rfl)))
    | (with_reducible intro hc; with_reducible exact Bool.noConfusion hc)
    | (with_reducible intro hc; have hC := And.intro hC hc))
  all_goals (apply pend rs105; (focus (simp only [go_sem, *]; first | done | exact rfl)); (focus (simp only [go_sem, *]; first | done | exact rfl | simp_all)))
end Go.Proofs.Ytloecggdboingaa
namespace Go.Proofs.Ytloecggdboingaa
open Go.RowKit Go.Proofs
set_option linter.unusedVariables false
set_option linter.unusedSimpArgs false
attribute [local irreducible] PPure

def RepK (v : Int) (n : Nat) (H : Hp) (K : PV → Hp → Prop) : Prop := ∀ l, H l = none → (∀ l', (H l').isSome = true → (l' = l) = False ∧ (l = l') = False) → K (.arr l 1 0 n) (upd H l (some (.row true 1 (List.replicate n (.int .i64 v)))))
theorem p90 (q : LK) (v : Int) (n : Nat) (hn : n ≤ 1000) (H : Hp) (K : PV → Hp → Prop) (hK : RepK v n H K) : CallsG Try.prog 90 [.list q [.int .i64 v], .int .i64 (n : Int)] H K := by
  have hn0 : ((n : Int) < 0) = False := by simp
  have hn1 : IntKind.u64.wrap (n : Int) = n := by rw [wrap_u64']; omega
  have hn2 : IntKind.u64.wrap ((1 : Nat) : Int) = 1 := by decide
  have hn3 : ((9223372036854775807 : Int) < (n : Int)) = False := by simp; omega
  have hn4 : IntKind.i64.wrap (n : Int) = n := by rw [IntKind.wrap_i64]; omega
  have hm := p105 n (by omega)
  refine callsG_of_T ok90 (by simp only [List.length_cons, List.length_nil]; decide) ?_
  refine t_seq ?_
  (have hNE := True.intro; have hC := True.intro; repeat' first
    | with_reducible refine k_seq ?_
    | with_reducible refine t_seq ?_
    | with_reducible refine t_reg ?_
    | with_reducible refine t_nil ?_
    | with_reducible refine t_skip ?_
    | with_reducible refine t_block ?_
    | ((with_reducible apply t_val); exact rfl; (intro _ _ _ h; cases h); (focus (simp only [go_sem, hNE, hn0, hn1, hn2, hn3, hn4, show ((1 : Nat) : Int) = 1 from rfl]; first | done | exact rfl)))
    | ((with_reducible apply t_callS); (focus (simp only [go_sem, hNE, hn0, hn1, hn2, hn3, hn4, show ((1 : Nat) : Int) = 1 from rfl]; first | done | exact rfl)); (focus (simp only [go_sem, hNE, hn0, hn1, hn2, hn3, hn4, show ((1 : Nat) : Int) = 1 from rfl]; first | done | exact rfl)); (focus (simp only [go_sem, hNE, hn0, hn1, hn2, hn3, hn4, show ((1 : Nat) : Int) = 1 from rfl]; first | done | exact rfl)); (first | exact hm))
    | ((with_reducible apply t_gval); exact rfl; (focus (simp only [go_sem, hNE, hn0, hn1, hn2, hn3, hn4, show ((1 : Nat) : Int) = 1 from rfl]; first | done | exact rfl)); exact rfl; (intro _ _ _ h; cases h); (focus (intro hG; simp only [go_sem, hNE, hn0, hn1, hn2, hn3, hn4, show ((1 : Nat) : Int) = 1 from rfl, hG]; first | done | exact rfl)))
    | ((with_reducible apply t_makeSlice); (focus (simp only [go_sem, hNE, hn0, hn1, hn2, hn3, hn4, show ((1 : Nat) : Int) = 1 from rfl]; first | done | exact rfl)); (focus (simp only [go_sem, hNE, hn0, hn1, hn2, hn3, hn4, show ((1 : Nat) : Int) = 1 from rfl]; first | done | exact rfl)); (focus (simp only [go_sem, hNE, hn0, hn1, hn2, hn3, hn4, show ((1 : Nat) : Int) = 1 from rfl]; first | done | exact rfl)); (focus (simp only [go_sem, hNE, hn0, hn1, hn2, hn3, hn4, show ((1 : Nat) : Int) = 1 from rfl]; first | done | exact rfl)); (focus (simp only [go_sem, hNE, hn0, hn1, hn2, hn3, hn4, show ((1 : Nat) : Int) = 1 from rfl]; first | done | exact rfl)); exact rfl; (focus (first | exact rfl | (simp only [go_sem, hNE, hn0, hn1, hn2, hn3, hn4, show ((1 : Nat) : Int) = 1 from rfl]; done))); (focus (first | omega | (simp only [go_sem, hNE, hn0, hn1, hn2, hn3, hn4, show ((1 : Nat) : Int) = 1 from rfl]; done))); (focus (simp only [go_sem, hNE, hn0, hn1, hn2, hn3, hn4, show ((1 : Nat) : Int) = 1 from rfl, roomB, List.length_take, List.length_append]; first | done | omega)); (focus omega); (intro la ha hn1; have hNE := And.intro hNE hn1))
    | ((with_reducible apply t_copy); (with_reducible exact app_27; with_reducible exact c_3); (focus (simp only [go_sem, hNE, hn0, hn1, hn2, hn3, hn4, show ((1 : Nat) : Int) = 1 from rfl]; first | done | exact rfl)); (focus (simp only [go_sem, hNE, hn0, hn1, hn2, hn3, hn4, show ((1 : Nat) : Int) = 1 from rfl]; first | done | exact rfl)); (focus (simp only [go_sem, hNE, hn0, hn1, hn2, hn3, hn4, show ((1 : Nat) : Int) = 1 from rfl, roomB, List.length_take, List.length_append]; first | done | omega)); (focus (simp only [go_sem, hNE, hn0, hn1, hn2, hn3, hn4, show ((1 : Nat) : Int) = 1 from rfl]; first | done | exact rfl)); (focus (simp only [go_sem, hNE, hn0, hn1, hn2, hn3, hn4, show ((1 : Nat) : Int) = 1 from rfl]; done)))
    | ((with_reducible apply t_cond); (focus (simp only [go_sem, hNE, hn0, hn1, hn2, hn3, hn4, show ((1 : Nat) : Int) = 1 from rfl]; first | done | exact rfl)))
    | (with_reducible intro hc; with_reducible exact Bool.noConfusion hc)
    | (with_reducible intro hc; have hC := And.intro hC hc))
  obtain ⟨_, hNE1⟩ := hNE
  refine t_loop (fun k s => ∃ m : Nat, m + k = n ∧ (n = 0 ∨ 1 ≤ m) ∧ s.env 7 = .arr la 1 0 n ∧ s.env 8 = .int .i64 m ∧ s.H = upd H la (some (.row true 1 (List.replicate m (.int .i64 v) ++ List.replicate (n - m) (.int .i64 0))))) (n - min 1 n) ?_ ?_
  · refine ⟨min 1 n, by omega, by omega, by simp only [go_sem], by simp only [go_sem], ?_⟩
    funext l
    simp only [go_sem]
    split
    · congr 2
      rcases n with _ | n
      · rfl
      · rw [show min 1 (n + 1) = 1 by omega]
        simp [List.replicate_succ]
    · rfl
  · rintro k s ⟨m, hk, hm1, h7, h8, hH⟩
    by_cases hi : m < n
    · have hlt := lt_int hi
      have hle := Int.le_of_lt hlt
      have f1 : ((m : Int) - 0).toNat = m := by omega
      have f2 : ((n : Int) - (m : Int)).toNat = n - m := by omega
      have f3 : (m ≤ m + (n - m)) = True := eq_true (by omega)
      have f4 : List.take m (List.replicate m (PV.int .i64 v) ++ List.replicate (n - m) (PV.int .i64 0)) = List.replicate m (.int .i64 v) := by rw [List.take_append_of_le_length (by simp), List.take_of_length_le (by simp)]
      have f5 : cellsB 1 (List.replicate m (PV.int .i64 v)) = true := by unfold cellsB; rw [List.all_eq_true]; intro x hx; rw [List.eq_of_mem_replicate hx]; rfl
      have f6 : IntKind.i64.wrap ((m : Int) + ((min m (n - m) : Nat) : Int)) = ((m + min m (n - m) : Nat) : Int) := by rw [IntKind.wrap_i64]; omega
      have f7 : splice (List.replicate m (PV.int .i64 v) ++ List.replicate (n - m) (PV.int .i64 0)) m ((List.replicate m (PV.int .i64 v)).take (n - m)) = List.replicate (m + min m (n - m)) (.int .i64 v) ++ List.replicate (n - (m + min m (n - m))) (.int .i64 0) := by
        unfold splice
        rw [f4, List.take_replicate, List.length_replicate, List.drop_append, List.drop_replicate, List.drop_replicate, List.length_replicate, List.replicate_append_replicate, Nat.min_comm (n - m) m]
        rw [show m - (m + min m (n - m)) = 0 by omega, show n - m - (m + min m (n - m) - m) = n - (m + min m (n - m)) by omega]
        simp
      (have hNE := True.intro; have hC := True.intro; repeat' first
    | with_reducible refine k_seq ?_
    | with_reducible refine t_seq ?_
    | with_reducible refine t_reg ?_
    | with_reducible refine t_nil ?_
    | with_reducible refine t_skip ?_
    | with_reducible refine t_block ?_
    | with_reducible refine t_drwE (by decide +kernel) ?_
    | ((with_reducible apply t_val); exact rfl; (intro _ _ _ h; cases h); (focus (simp only [go_sem, hNE, h7, h8, hH, hlt, hle, f1, f2, f3, List.length_append, Int.le_refl]; first | done | exact rfl)))
    | ((with_reducible apply m_val); exact rfl; exact rfl; (intro _ _ _ h; cases h); (focus (simp only [go_sem, hNE, h7, h8, hH, hlt, hle, f1, f2, f3, List.length_append, Int.le_refl]; first | done | exact rfl)))
    | ((with_reducible apply t_cond); (focus (simp only [go_sem, hNE, h7, h8, hH, hlt, hle, f1, f2, f3, List.length_append, Int.le_refl]; first | done | exact rfl)))
    | (with_reducible intro hc; with_reducible exact Bool.noConfusion hc)
    | (with_reducible intro hc; have hC := And.intro hC hc))
      (with_reducible apply m_copy)
      · exact rfl
      · exact app_27
      · exact c_3
      · (focus (simp only [go_sem, h7, h8, hH, hlt, hle, f1, f2]; first | done | exact rfl))
      · (focus (simp only [go_sem, h7, h8, hH, hlt, hle, f1, f2]; first | done | exact rfl))
      · (focus (simp only [go_sem, h7, h8, hH, hlt, hle, f1, f2, List.length_append]; first | done | omega))
      · (focus (simp only [go_sem, h7, h8, hH, hlt, hle, f1, f2, f3, f4, List.length_append]; first | done | exact rfl))
      · exact f5
      · rw [f7]
        (have hNE := True.intro; have hC := True.intro; repeat' first
    | with_reducible refine k_blk ?_
    | with_reducible refine m_nil ?_
    | ((with_reducible apply m_val); exact rfl; exact rfl; (intro _ _ _ h; cases h); (focus (simp only [go_sem, hNE, h7, h8, f6]; first | done | exact rfl))))
        refine k_inv (n - (m + min m (n - m))) ?_ ⟨m + min m (n - m), ?_, ?_, ?_, ?_, ?_⟩
        · omega
        · omega
        · omega
        · simp only [go_sem, h7]
        · simp only [go_sem, h7, h8, List.length_replicate, f6]
        · simp only [put_H', hH]
          funext l
          simp only [upd_apply]
          split <;> rfl
    · have hlt := nlt_int hi
      have hmn : m = n := by omega
      (have hNE := True.intro; have hC := True.intro; repeat' first
    | with_reducible refine k_seq ?_
    | with_reducible refine t_seq ?_
    | with_reducible refine t_reg ?_
    | with_reducible refine t_nil ?_
    | with_reducible refine t_ret ?_
    | with_reducible refine t_exit ?_
    | with_reducible refine k_seq_exit ?_
    | with_reducible refine k_blk_exit ?_
    | with_reducible refine k_inv_exit ?_
    | ((with_reducible apply t_val); exact rfl; (intro _ _ _ h; cases h); (focus (simp only [go_sem, hNE, h7, h8, hH, hlt]; first | done | exact rfl)))
    | ((with_reducible apply t_cond); (focus (simp only [go_sem, hNE, h7, h8, hH, hlt]; first | done | exact rfl)))
    | (with_reducible intro hc; with_reducible exact Bool.noConfusion hc)
    | (with_reducible intro hc; have hC := And.intro hC hc))
      refine ⟨.inr rfl, .arr la 1 0 n, upd H la (some (.row true 1 (List.replicate n (.int .i64 v)))), by rw [rs90]; simp only [go_sem], ?_, hK la ha hNE1⟩
      intro l c h
      simp only [put_H', hH, hmn, Nat.sub_self, List.replicate_zero, List.append_nil]
      exact h
end Go.Proofs.Ytloecggdboingaa
namespace Go.Proofs.Ytloecggdboingaa
open Go.RowKit Go.Proofs
set_option linter.unusedVariables false
set_option linter.unusedSimpArgs false
attribute [local irreducible] PPure

def actAt (ds : List Dum) (i : Nat) (x : Act) : Int := if (x.kw == []) = true then (i : Int) else named ds x.kw
def mtake (i : Nat) (x : Act) (out : List Int) (rank a v : Int) (d : Dum) : Option (List Int × Int) :=
  if (decide (¬ v = -1) || !accB d x.f) = true then none else
  if (d.elem && decide (0 < x.f.r)) = true then
    if (decide (0 < rank) && decide (¬ x.f.r = rank)) = true then none else some (out.set a.toNat (i : Int), x.f.r)
  else some (out.set a.toNat (i : Int), rank)
/-- One actual argument: the indexes so far, the rank so far. -/
def mstep (ds : List Dum) (i : Nat) (x : Act) (out : List Int) (rank : Int) : Option (List Int × Int) :=
  if (decide (0 ≤ actAt ds i x) && decide (actAt ds i x ≤ (out.length : Int) - 1)) = false then none else
  match out[(actAt ds i x).toNat]?, ds[(actAt ds i x).toNat]? with
  | some v, some d => mtake i x out rank (actAt ds i x) v d
  | _, _ => none
def mloop (ds : List Dum) : List Act → Nat → List Int → Int → Option (List Int)
  | [], _, out, _ => some out
  | x :: rest, i, out, rank => (mstep ds i x out rank).bind fun o => mloop ds rest (i + 1) o.1 o.2
def mfin : List Dum → List Int → Bool
  | d :: ds, v :: vs => if (decide (v = -1) && !d.opt) = true then false else mfin ds vs
  | _, _ => true
def matchF (p : Prc) (c : List Act) : Option (List Int) := (mloop p.ds c 0 (List.replicate p.ds.length (-1)) 0).bind fun o => if mfin p.ds o = true then some o else none
def encM (o : Option (List Int)) : PV := .tup [.list .any ((o.getD []).map encI), .bool o.isSome]
theorem encI_get {out : List Int} {n : Nat} {v : Int} (h : out[n]? = some v) : (out.map encI)[n]? = some (.int .i64 v) := by rw [List.getElem?_map, h]; rfl
theorem replI (n : Nat) (v : Int) : List.replicate n (PV.int .i64 v) = (List.replicate n v).map encI := by rw [List.map_replicate]; rfl
theorem setI (out : List Int) (n : Nat) (v : Int) : (out.map encI).set n (.int .i64 v) = (out.set n v).map encI := by rw [List.map_set]; rfl
theorem get_dec {α : Type} {l : List α} {a : Int} (h0 : 0 ≤ a) (h1 : a < l.length) : ∃ x, l[a.toNat]? = some x := ⟨l[a.toNat]'(by omega), List.getElem?_eq_getElem (by omega)⟩

theorem nmI6 (H : Hp) (xs : List Int) : (xs.map encI).mapM (norm false H 6) = some (xs.map encI) := nm_of clIs H 5 xs

set_option maxHeartbeats 4000000 in
theorem p56 (p : Prc) (c : List Act) (hd : p.ds.length ≤ 1000) (hc : c.length ≤ 1000) : PPure Try.prog 56 [encP p, .list .any (c.map encA)] (encM (matchF p c)) := by
  simp only [encP]
  (refine ppure_of_T ok56 (by simp only [List.length_cons, List.length_nil]; decide) ?_; refine t_seq ?_)
  (have hNE := True.intro; have hC := True.intro; repeat' first
      | with_reducible refine k_seq ?_
      | with_reducible refine t_seq ?_
      | with_reducible refine t_reg ?_
      | with_reducible refine t_nil ?_
      | ((with_reducible apply te_val); exact rfl; (intro _ _ _ h; cases h); (focus (simp only [go_sem, hNE]; first | done | exact rfl)))
      | ((with_reducible apply te_box); (focus (simp only [go_sem, hNE]; first | done | exact rfl)); exact rfl; (focus (simp only [go_sem, hNE]; first | done | exact rfl))))
  (with_reducible apply te_callG)
  · (focus (simp only [go_sem]; first | done | exact rfl))
  · (focus (simp only [go_sem]; first | done | exact rfl))
  refine p90 _ (-1) p.ds.length hd _ _ ?_
  intro la ha hn1
  (have hNE := True.intro; have hC := True.intro; repeat' first
      | with_reducible refine k_seq ?_
      | with_reducible refine t_seq ?_
      | with_reducible refine t_reg ?_
      | with_reducible refine t_nil ?_
      | with_reducible refine t_block ?_
      | ((with_reducible apply te_val); exact rfl; (intro _ _ _ h; cases h); (focus (simp only [go_sem, hNE]; first | done | exact rfl))))
  refine t_loopE (fun (k0 : Nat) (E0 : Nat → PV) (H0 : Hp) => ∃ (i : Nat) (out : List Int) (r : Int), i + k0 = c.length ∧ mloop p.ds (c.drop i) i out r = mloop p.ds c 0 (List.replicate p.ds.length (-1)) 0 ∧ out.length = p.ds.length ∧ H0 la = some (.row true 1 (out.map encI)) ∧ E0 7 = .int .i64 r ∧ E0 21 = .int .i64 i) (c.length) ⟨0, List.replicate p.ds.length (-1), 0, (by first | omega | rfl | assumption | (simp only [go_sem]; first | done | rfl | assumption | omega)), ?_, ?_, ?_, (by simp only [go_sem]; first | done | rfl), (by simp only [go_sem]; first | done | rfl)⟩ ?_
  · rfl
  · exact List.length_replicate
  · simp only [go_sem, replI]
  rintro k0 E0 H0 hfr0 ⟨i, out, r, hk, hr, hlen, hla, h0_7, h0_21⟩
  have e0_2 := hfr0 2 rfl; have e0_6 := hfr0 6 rfl; have e0_19 := hfr0 19 rfl; have e0_20 := hfr0 20 rfl
  simp only [go_sem] at e0_2 e0_6 e0_19 e0_20
  clear hfr0
  by_cases hi : i < c.length
  · obtain ⟨x, hx, hdr⟩ := at_list hi
    have hlt := lt_int hi
    have hw := wrap_next hi hc
    have hle := Int.le_of_lt hlt
    rw [hdr, mloop] at hr
    cases hkw : (x.kw == []) with
    | true =>
      have hat : actAt p.ds i x = (i : Int) := by simp [actAt, hkw]
      have HW : IntKind.i64.wrap ((p.ds.length : Int) - 1) = (p.ds.length : Int) - 1 := by rw [IntKind.wrap_i64]; omega
      have hlo := congrArg (fun n : Nat => (n : Int)) hlen
      cases hin : (decide (0 ≤ (i : Int)) && decide ((i : Int) ≤ (p.ds.length : Int) - 1)) with
      | true =>
        have hin' := hin
        simp only [Bool.and_eq_true, decide_eq_true_eq] at hin'
        obtain ⟨g0, g1⟩ := hin'
        have g2 : (i : Int) < (p.ds.length : Int) := by omega
        obtain ⟨v, hv⟩ := get_dec (l := out) g0 (by omega)
        obtain ⟨d, hdd⟩ := get_dec g0 g2
        have HV := hv
        have HD := hdd
        try simp only [Int.toNat_natCast] at HV HD
        (have hA := And.intro e0_2 (And.intro e0_6 (And.intro e0_19 (And.intro e0_20 (And.intro h0_7 (And.intro h0_21 (hla)))))); have hNE := True.intro; have hC := True.intro; repeat' first
            | ((with_reducible apply te_drwE); (focus (simp only [effFl, List.map_cons, List.map_nil]; exact rfl)); (focus decide +kernel))
            | with_reducible refine k_seq ?_
            | with_reducible refine t_seq ?_
            | with_reducible refine t_reg ?_
            | with_reducible refine t_nil ?_
            | with_reducible refine t_skip ?_
            | with_reducible refine t_ret ?_
            | with_reducible refine k_seq_ret ?_
            | with_reducible refine k_blk_ret ?_
            | with_reducible refine k_blk ?_
            | with_reducible refine k_invE_ret ?_
            | with_reducible refine t_block ?_
            | with_reducible refine m_nil ?_
            | ((with_reducible apply te_val); exact rfl; (intro _ _ _ h; cases h); (focus (simp only [go_sem, hNE, hA, hkw, hlt, hle, hx, hw, HW, hin, g0, g1, g2, HV, HD, encA, encD, encF, encI]; first | done | exact rfl)))
            | ((with_reducible apply te_gval); exact rfl; (focus (simp only [go_sem, hNE, hA, hkw, hlt, hle, hx, hw, HW, hin, g0, g1, g2, HV, HD, encA, encD, encF, encI]; first | done | exact rfl)); exact rfl; (intro _ _ _ h; cases h); (focus (intro hG; simp only [go_sem, hNE, hA, hkw, hlt, hle, hx, hw, HW, hin, g0, g1, g2, HV, HD, encA, encD, encF, encI, hG]; first | done | exact rfl)))
            | ((with_reducible apply me_val); exact rfl; (intro _ _ _ h; cases h); (focus (simp only [go_sem, hNE, hA, hkw, hlt, hle, hx, hw, HW, hin, g0, g1, g2, HV, HD, encA, encD, encF, encI]; first | done | exact rfl)))
            | ((with_reducible apply me_callS); (focus (simp only [go_sem, hNE, hA, hkw, hlt, hle, hx, hw, HW, hin, g0, g1, g2, HV, HD, encA, encD, encF, encI]; first | done | exact rfl)); (focus (simp only [go_sem, hNE, hA, hkw, hlt, hle, hx, hw, HW, hin, g0, g1, g2, HV, HD, encA, encD, encF, encI]; first | done | exact rfl)); (focus (simp only [go_sem, hNE, hA, hkw, hlt, hle, hx, hw, HW, hin, g0, g1, g2, HV, HD, encA, encD, encF, encI]; first | done | exact rfl)); (first | exact p91 p.ds x.kw hd | exact p81 (i : Int) _ _ | exact p92 d x.f))
            | ((with_reducible apply me_gval); exact rfl; (focus (simp only [go_sem, hNE, hA, hkw, hlt, hle, hx, hw, HW, hin, g0, g1, g2, HV, HD, encA, encD, encF, encI]; first | done | exact rfl)); exact rfl; (intro _ _ _ h; cases h); (focus (intro hG; simp only [go_sem, hNE, hA, hkw, hlt, hle, hx, hw, HW, hin, g0, g1, g2, HV, HD, encA, encD, encF, encI, hG]; first | done | exact rfl)))
            | ((with_reducible apply me_gcallS); exact rfl; (focus (simp only [go_sem, hNE, hA, hkw, hlt, hle, hx, hw, HW, hin, g0, g1, g2, HV, HD, encA, encD, encF, encI]; first | done | exact rfl)); (focus (simp only [go_sem, hNE, hA, hkw, hlt, hle, hx, hw, HW, hin, g0, g1, g2, HV, HD, encA, encD, encF, encI]; first | done | exact rfl)); (focus (intro hG; simp only [go_sem, hNE, hA, hkw, hlt, hle, hx, hw, HW, hin, g0, g1, g2, HV, HD, encA, encD, encF, encI, hG]; first | done | exact rfl)); (focus (simp only [go_sem, hNE, hA, hkw, hlt, hle, hx, hw, HW, hin, g0, g1, g2, HV, HD, encA, encD, encF, encI]; done)); (intro hG; first | exact p91 p.ds x.kw hd | exact p81 (i : Int) _ _ | exact p92 d x.f))
            | ((with_reducible apply te_alloc); (focus (simp only [go_sem, hNE, hA, hkw, hlt, hle, hx, hw, HW, hin, g0, g1, g2, HV, HD, encA, encD, encF, encI]; first | done | exact rfl)); exact rfl; exact rfl; (intro la ha hn1; have hNE := And.intro hNE hn1))
            | ((with_reducible apply te_store); (focus (simp only [go_sem, hNE, hA, hkw, hlt, hle, hx, hw, HW, hin, g0, g1, g2, HV, HD, encA, encD, encF, encI]; first | done | exact rfl)); (focus (simp only [go_sem, hNE, hA, hkw, hlt, hle, hx, hw, HW, hin, g0, g1, g2, HV, HD, encA, encD, encF, encI]; first | done | exact rfl)); (focus (simp only [go_sem, hNE, hA, hkw, hlt, hle, hx, hw, HW, hin, g0, g1, g2, HV, HD, encA, encD, encF, encI]; first | done | exact rfl)); (focus (simp only [go_sem, hNE, hA, hkw, hlt, hle, hx, hw, HW, hin, g0, g1, g2, HV, HD, encA, encD, encF, encI]; first | done | exact rfl)); (focus (simp only [go_sem, hNE, hA, hkw, hlt, hle, hx, hw, HW, hin, g0, g1, g2, HV, HD, encA, encD, encF, encI]; first | done | exact rfl)); (focus (simp only [go_sem, hNE, hA, hkw, hlt, hle, hx, hw, HW, hin, g0, g1, g2, HV, HD, encA, encD, encF, encI]; first | done | exact rfl)))
            | ((with_reducible apply t_cond); (focus (simp only [go_sem, hNE, hA, hkw, hlt, hle, hx, hw, HW, hin, g0, g1, g2, HV, HD, encA, encD, encF, encI]; first | done | exact rfl)))
            | (with_reducible intro hc; with_reducible exact Bool.noConfusion hc)
            | (with_reducible intro hc; have hC := And.intro hC hc))
        all_goals (rw [show mstep p.ds i x out r = mtake i x out r (i : Int) v d by simp only [mstep, hat, hlo, hin, hv, hdd]; rfl] at hr)
        all_goals (simp only [mtake, hC, if_true, if_false, Bool.false_eq_true, Option.bind_none, Option.bind_some] at hr)
        · have hm : matchF p c = none := by rw [matchF, ← hr]; rfl
          (first | apply pend rs56 | apply pendN rs56); (focus (simp only [go_sem, e0_2, e0_6, e0_19, e0_20, h0_7, h0_21, hla, hm, encM]; first | done | exact rfl)); (focus (simp only [go_sem, e0_2, e0_6, e0_19, e0_20, h0_7, h0_21, hla, hm, encM]; first | done | exact rfl))
        · have hm : matchF p c = none := by rw [matchF, ← hr]; rfl
          (first | apply pend rs56 | apply pendN rs56); (focus (simp only [go_sem, e0_2, e0_6, e0_19, e0_20, h0_7, h0_21, hla, hm, encM]; first | done | exact rfl)); (focus (simp only [go_sem, e0_2, e0_6, e0_19, e0_20, h0_7, h0_21, hla, hm, encM]; first | done | exact rfl))
        · refine k_invE (k0 - 1) (by omega) ⟨i + 1, out.set (i : Int).toNat (i : Int), x.f.r, (by omega), ?_, ?_, (by simp only [go_sem, e0_2, e0_6, e0_19, e0_20, h0_7, h0_21, hla, hw, setI, hNE]; first | done | rfl), (by simp only [go_sem, e0_2, e0_6, e0_19, e0_20, h0_7, h0_21, hla, hw, setI]; first | done | rfl), (by simp only [go_sem, e0_2, e0_6, e0_19, e0_20, h0_7, h0_21, hla, hw, setI]; first | done | rfl)⟩
          · exact hr
          · rw [List.length_set]; exact hlen
        · refine k_invE (k0 - 1) (by omega) ⟨i + 1, out.set (i : Int).toNat (i : Int), r, (by omega), ?_, ?_, (by simp only [go_sem, e0_2, e0_6, e0_19, e0_20, h0_7, h0_21, hla, hw, setI, hNE]; first | done | rfl), (by simp only [go_sem, e0_2, e0_6, e0_19, e0_20, h0_7, h0_21, hla, hw, setI]; first | done | rfl), (by simp only [go_sem, e0_2, e0_6, e0_19, e0_20, h0_7, h0_21, hla, hw, setI]; first | done | rfl)⟩
          · exact hr
          · rw [List.length_set]; exact hlen
      | false =>
        have hn : mstep p.ds i x out r = none := by simp only [mstep, hat, hlo, hin, if_true]
        rw [hn, Option.bind_none] at hr
        have hm : matchF p c = none := by rw [matchF, ← hr]; rfl
        have hin2 := hin
        try simp only [Int.natCast_nonneg, decide_true, Bool.true_and] at hin2
        (have hA := And.intro e0_2 (And.intro e0_6 (And.intro e0_19 (And.intro e0_20 (And.intro h0_7 (And.intro h0_21 (hla)))))); have hNE := True.intro; have hC := True.intro; repeat' first
            | ((with_reducible apply te_drwE); (focus (simp only [effFl, List.map_cons, List.map_nil]; exact rfl)); (focus decide +kernel))
            | with_reducible refine k_seq ?_
            | with_reducible refine t_seq ?_
            | with_reducible refine t_reg ?_
            | with_reducible refine t_nil ?_
            | with_reducible refine t_skip ?_
            | with_reducible refine t_ret ?_
            | with_reducible refine k_seq_ret ?_
            | with_reducible refine k_blk_ret ?_
            | with_reducible refine k_invE_ret ?_
            | with_reducible refine t_block ?_
            | with_reducible refine m_nil ?_
            | ((with_reducible apply te_val); exact rfl; (intro _ _ _ h; cases h); (focus (simp only [go_sem, hNE, hA, hkw, hlt, hle, hx, hw, HW, hin, hin2, encA, encD, encF, encI]; first | done | exact rfl)))
            | ((with_reducible apply me_val); exact rfl; (intro _ _ _ h; cases h); (focus (simp only [go_sem, hNE, hA, hkw, hlt, hle, hx, hw, HW, hin, hin2, encA, encD, encF, encI]; first | done | exact rfl)))
            | ((with_reducible apply me_callS); (focus (simp only [go_sem, hNE, hA, hkw, hlt, hle, hx, hw, HW, hin, hin2, encA, encD, encF, encI]; first | done | exact rfl)); (focus (simp only [go_sem, hNE, hA, hkw, hlt, hle, hx, hw, HW, hin, hin2, encA, encD, encF, encI]; first | done | exact rfl)); (focus (simp only [go_sem, hNE, hA, hkw, hlt, hle, hx, hw, HW, hin, hin2, encA, encD, encF, encI]; first | done | exact rfl)); (first | exact p91 p.ds x.kw hd | exact p81 (i : Int) _ _))
            | ((with_reducible apply me_gval); exact rfl; (focus (simp only [go_sem, hNE, hA, hkw, hlt, hle, hx, hw, HW, hin, hin2, encA, encD, encF, encI]; first | done | exact rfl)); exact rfl; (intro _ _ _ h; cases h); (focus (intro hG; simp only [go_sem, hNE, hA, hkw, hlt, hle, hx, hw, HW, hin, hin2, encA, encD, encF, encI, hG]; first | done | exact rfl)))
            | ((with_reducible apply me_gno); exact rfl; (focus (simp only [go_sem, hNE, hA, hkw, hlt, hle, hx, hw, HW, hin, hin2, encA, encD, encF, encI]; first | done | exact rfl)); exact rfl)
            | ((with_reducible apply te_alloc); (focus (simp only [go_sem, hNE, hA, hkw, hlt, hle, hx, hw, HW, hin, hin2, encA, encD, encF, encI]; first | done | exact rfl)); exact rfl; exact rfl; (intro la ha hn1; have hNE := And.intro hNE hn1))
            | ((with_reducible apply te_store); (focus (simp only [go_sem, hNE, hA, hkw, hlt, hle, hx, hw, HW, hin, hin2, encA, encD, encF, encI]; first | done | exact rfl)); (focus (simp only [go_sem, hNE, hA, hkw, hlt, hle, hx, hw, HW, hin, hin2, encA, encD, encF, encI]; first | done | exact rfl)); (focus (simp only [go_sem, hNE, hA, hkw, hlt, hle, hx, hw, HW, hin, hin2, encA, encD, encF, encI]; first | done | exact rfl)); (focus (simp only [go_sem, hNE, hA, hkw, hlt, hle, hx, hw, HW, hin, hin2, encA, encD, encF, encI]; first | done | exact rfl)); (focus (simp only [go_sem, hNE, hA, hkw, hlt, hle, hx, hw, HW, hin, hin2, encA, encD, encF, encI]; first | done | exact rfl)); (focus (simp only [go_sem, hNE, hA, hkw, hlt, hle, hx, hw, HW, hin, hin2, encA, encD, encF, encI]; first | done | exact rfl)))
            | ((with_reducible apply t_cond); (focus (simp only [go_sem, hNE, hA, hkw, hlt, hle, hx, hw, HW, hin, hin2, encA, encD, encF, encI]; first | done | exact rfl)))
            | (with_reducible intro hc; with_reducible exact Bool.noConfusion hc)
            | (with_reducible intro hc; have hC := And.intro hC hc))
        (first | apply pend rs56 | apply pendN rs56); (focus (simp only [go_sem, e0_2, e0_6, e0_19, e0_20, h0_7, h0_21, hla, hm, encM]; first | done | exact rfl)); (focus (simp only [go_sem, e0_2, e0_6, e0_19, e0_20, h0_7, h0_21, hla, hm, encM]; first | done | exact rfl))
    | false =>
      have hat : actAt p.ds i x = named p.ds x.kw := by simp [actAt, hkw]
      have HW : IntKind.i64.wrap ((p.ds.length : Int) - 1) = (p.ds.length : Int) - 1 := by rw [IntKind.wrap_i64]; omega
      have hlo := congrArg (fun n : Nat => (n : Int)) hlen
      cases hin : (decide (0 ≤ (named p.ds x.kw)) && decide ((named p.ds x.kw) ≤ (p.ds.length : Int) - 1)) with
      | true =>
        have hin' := hin
        simp only [Bool.and_eq_true, decide_eq_true_eq] at hin'
        obtain ⟨g0, g1⟩ := hin'
        have g2 : (named p.ds x.kw) < (p.ds.length : Int) := by omega
        obtain ⟨v, hv⟩ := get_dec (l := out) g0 (by omega)
        obtain ⟨d, hdd⟩ := get_dec g0 g2
        have HV := hv
        have HD := hdd
        try simp only [Int.toNat_natCast] at HV HD
        (have hA := And.intro e0_2 (And.intro e0_6 (And.intro e0_19 (And.intro e0_20 (And.intro h0_7 (And.intro h0_21 (hla)))))); have hNE := True.intro; have hC := True.intro; repeat' first
            | ((with_reducible apply te_drwE); (focus (simp only [effFl, List.map_cons, List.map_nil]; exact rfl)); (focus decide +kernel))
            | with_reducible refine k_seq ?_
            | with_reducible refine t_seq ?_
            | with_reducible refine t_reg ?_
            | with_reducible refine t_nil ?_
            | with_reducible refine t_skip ?_
            | with_reducible refine t_ret ?_
            | with_reducible refine k_seq_ret ?_
            | with_reducible refine k_blk_ret ?_
            | with_reducible refine k_blk ?_
            | with_reducible refine k_invE_ret ?_
            | with_reducible refine t_block ?_
            | with_reducible refine m_nil ?_
            | ((with_reducible apply te_val); exact rfl; (intro _ _ _ h; cases h); (focus (simp only [go_sem, hNE, hA, hkw, hlt, hle, hx, hw, HW, hin, g0, g1, g2, HV, HD, encA, encD, encF, encI]; first | done | exact rfl)))
            | ((with_reducible apply te_callS); (focus (simp only [go_sem, hNE, hA, hkw, hlt, hle, hx, hw, HW, hin, g0, g1, g2, HV, HD, encA, encD, encF, encI]; first | done | exact rfl)); (focus (simp only [go_sem, hNE, hA, hkw, hlt, hle, hx, hw, HW, hin, g0, g1, g2, HV, HD, encA, encD, encF, encI]; first | done | exact rfl)); (focus (simp only [go_sem, hNE, hA, hkw, hlt, hle, hx, hw, HW, hin, g0, g1, g2, HV, HD, encA, encD, encF, encI]; first | done | exact rfl)); (first | exact p91 p.ds x.kw hd | exact p81 (named p.ds x.kw) _ _ | exact p92 d x.f))
            | ((with_reducible apply te_gval); exact rfl; (focus (simp only [go_sem, hNE, hA, hkw, hlt, hle, hx, hw, HW, hin, g0, g1, g2, HV, HD, encA, encD, encF, encI]; first | done | exact rfl)); exact rfl; (intro _ _ _ h; cases h); (focus (intro hG; simp only [go_sem, hNE, hA, hkw, hlt, hle, hx, hw, HW, hin, g0, g1, g2, HV, HD, encA, encD, encF, encI, hG]; first | done | exact rfl)))
            | ((with_reducible apply me_val); exact rfl; (intro _ _ _ h; cases h); (focus (simp only [go_sem, hNE, hA, hkw, hlt, hle, hx, hw, HW, hin, g0, g1, g2, HV, HD, encA, encD, encF, encI]; first | done | exact rfl)))
            | ((with_reducible apply me_callS); (focus (simp only [go_sem, hNE, hA, hkw, hlt, hle, hx, hw, HW, hin, g0, g1, g2, HV, HD, encA, encD, encF, encI]; first | done | exact rfl)); (focus (simp only [go_sem, hNE, hA, hkw, hlt, hle, hx, hw, HW, hin, g0, g1, g2, HV, HD, encA, encD, encF, encI]; first | done | exact rfl)); (focus (simp only [go_sem, hNE, hA, hkw, hlt, hle, hx, hw, HW, hin, g0, g1, g2, HV, HD, encA, encD, encF, encI]; first | done | exact rfl)); (first | exact p91 p.ds x.kw hd | exact p81 (named p.ds x.kw) _ _ | exact p92 d x.f))
            | ((with_reducible apply me_gval); exact rfl; (focus (simp only [go_sem, hNE, hA, hkw, hlt, hle, hx, hw, HW, hin, g0, g1, g2, HV, HD, encA, encD, encF, encI]; first | done | exact rfl)); exact rfl; (intro _ _ _ h; cases h); (focus (intro hG; simp only [go_sem, hNE, hA, hkw, hlt, hle, hx, hw, HW, hin, g0, g1, g2, HV, HD, encA, encD, encF, encI, hG]; first | done | exact rfl)))
            | ((with_reducible apply me_gcallS); exact rfl; (focus (simp only [go_sem, hNE, hA, hkw, hlt, hle, hx, hw, HW, hin, g0, g1, g2, HV, HD, encA, encD, encF, encI]; first | done | exact rfl)); (focus (simp only [go_sem, hNE, hA, hkw, hlt, hle, hx, hw, HW, hin, g0, g1, g2, HV, HD, encA, encD, encF, encI]; first | done | exact rfl)); (focus (intro hG; simp only [go_sem, hNE, hA, hkw, hlt, hle, hx, hw, HW, hin, g0, g1, g2, HV, HD, encA, encD, encF, encI, hG]; first | done | exact rfl)); (focus (simp only [go_sem, hNE, hA, hkw, hlt, hle, hx, hw, HW, hin, g0, g1, g2, HV, HD, encA, encD, encF, encI]; done)); (intro hG; first | exact p91 p.ds x.kw hd | exact p81 (named p.ds x.kw) _ _ | exact p92 d x.f))
            | ((with_reducible apply te_alloc); (focus (simp only [go_sem, hNE, hA, hkw, hlt, hle, hx, hw, HW, hin, g0, g1, g2, HV, HD, encA, encD, encF, encI]; first | done | exact rfl)); exact rfl; exact rfl; (intro la ha hn1; have hNE := And.intro hNE hn1))
            | ((with_reducible apply te_store); (focus (simp only [go_sem, hNE, hA, hkw, hlt, hle, hx, hw, HW, hin, g0, g1, g2, HV, HD, encA, encD, encF, encI]; first | done | exact rfl)); (focus (simp only [go_sem, hNE, hA, hkw, hlt, hle, hx, hw, HW, hin, g0, g1, g2, HV, HD, encA, encD, encF, encI]; first | done | exact rfl)); (focus (simp only [go_sem, hNE, hA, hkw, hlt, hle, hx, hw, HW, hin, g0, g1, g2, HV, HD, encA, encD, encF, encI]; first | done | exact rfl)); (focus (simp only [go_sem, hNE, hA, hkw, hlt, hle, hx, hw, HW, hin, g0, g1, g2, HV, HD, encA, encD, encF, encI]; first | done | exact rfl)); (focus (simp only [go_sem, hNE, hA, hkw, hlt, hle, hx, hw, HW, hin, g0, g1, g2, HV, HD, encA, encD, encF, encI]; first | done | exact rfl)); (focus (simp only [go_sem, hNE, hA, hkw, hlt, hle, hx, hw, HW, hin, g0, g1, g2, HV, HD, encA, encD, encF, encI]; first | done | exact rfl)))
            | ((with_reducible apply t_cond); (focus (simp only [go_sem, hNE, hA, hkw, hlt, hle, hx, hw, HW, hin, g0, g1, g2, HV, HD, encA, encD, encF, encI]; first | done | exact rfl)))
            | (with_reducible intro hc; with_reducible exact Bool.noConfusion hc)
            | (with_reducible intro hc; have hC := And.intro hC hc))
        all_goals (rw [show mstep p.ds i x out r = mtake i x out r (named p.ds x.kw) v d by simp only [mstep, hat, hlo, hin, hv, hdd]; rfl] at hr)
        all_goals (simp only [mtake, hC, if_true, if_false, Bool.false_eq_true, Option.bind_none, Option.bind_some] at hr)
        · have hm : matchF p c = none := by rw [matchF, ← hr]; rfl
          (first | apply pend rs56 | apply pendN rs56); (focus (simp only [go_sem, e0_2, e0_6, e0_19, e0_20, h0_7, h0_21, hla, hm, encM]; first | done | exact rfl)); (focus (simp only [go_sem, e0_2, e0_6, e0_19, e0_20, h0_7, h0_21, hla, hm, encM]; first | done | exact rfl))
        · have hm : matchF p c = none := by rw [matchF, ← hr]; rfl
          (first | apply pend rs56 | apply pendN rs56); (focus (simp only [go_sem, e0_2, e0_6, e0_19, e0_20, h0_7, h0_21, hla, hm, encM]; first | done | exact rfl)); (focus (simp only [go_sem, e0_2, e0_6, e0_19, e0_20, h0_7, h0_21, hla, hm, encM]; first | done | exact rfl))
        · refine k_invE (k0 - 1) (by omega) ⟨i + 1, out.set (named p.ds x.kw).toNat (i : Int), x.f.r, (by omega), ?_, ?_, (by simp only [go_sem, e0_2, e0_6, e0_19, e0_20, h0_7, h0_21, hla, hw, setI, hNE]; first | done | rfl), (by simp only [go_sem, e0_2, e0_6, e0_19, e0_20, h0_7, h0_21, hla, hw, setI]; first | done | rfl), (by simp only [go_sem, e0_2, e0_6, e0_19, e0_20, h0_7, h0_21, hla, hw, setI]; first | done | rfl)⟩
          · exact hr
          · rw [List.length_set]; exact hlen
        · refine k_invE (k0 - 1) (by omega) ⟨i + 1, out.set (named p.ds x.kw).toNat (i : Int), r, (by omega), ?_, ?_, (by simp only [go_sem, e0_2, e0_6, e0_19, e0_20, h0_7, h0_21, hla, hw, setI, hNE]; first | done | rfl), (by simp only [go_sem, e0_2, e0_6, e0_19, e0_20, h0_7, h0_21, hla, hw, setI]; first | done | rfl), (by simp only [go_sem, e0_2, e0_6, e0_19, e0_20, h0_7, h0_21, hla, hw, setI]; first | done | rfl)⟩
          · exact hr
          · rw [List.length_set]; exact hlen
      | false =>
        have hn : mstep p.ds i x out r = none := by simp only [mstep, hat, hlo, hin, if_true]
        rw [hn, Option.bind_none] at hr
        have hm : matchF p c = none := by rw [matchF, ← hr]; rfl
        have hin2 := hin
        try simp only [Int.natCast_nonneg, decide_true, Bool.true_and] at hin2
        (have hA := And.intro e0_2 (And.intro e0_6 (And.intro e0_19 (And.intro e0_20 (And.intro h0_7 (And.intro h0_21 (hla)))))); have hNE := True.intro; have hC := True.intro; repeat' first
            | ((with_reducible apply te_drwE); (focus (simp only [effFl, List.map_cons, List.map_nil]; exact rfl)); (focus decide +kernel))
            | with_reducible refine k_seq ?_
            | with_reducible refine t_seq ?_
            | with_reducible refine t_reg ?_
            | with_reducible refine t_nil ?_
            | with_reducible refine t_skip ?_
            | with_reducible refine t_ret ?_
            | with_reducible refine k_seq_ret ?_
            | with_reducible refine k_blk_ret ?_
            | with_reducible refine k_invE_ret ?_
            | with_reducible refine t_block ?_
            | with_reducible refine m_nil ?_
            | ((with_reducible apply te_val); exact rfl; (intro _ _ _ h; cases h); (focus (simp only [go_sem, hNE, hA, hkw, hlt, hle, hx, hw, HW, hin, hin2, encA, encD, encF, encI]; first | done | exact rfl)))
            | ((with_reducible apply te_callS); (focus (simp only [go_sem, hNE, hA, hkw, hlt, hle, hx, hw, HW, hin, hin2, encA, encD, encF, encI]; first | done | exact rfl)); (focus (simp only [go_sem, hNE, hA, hkw, hlt, hle, hx, hw, HW, hin, hin2, encA, encD, encF, encI]; first | done | exact rfl)); (focus (simp only [go_sem, hNE, hA, hkw, hlt, hle, hx, hw, HW, hin, hin2, encA, encD, encF, encI]; first | done | exact rfl)); (first | exact p91 p.ds x.kw hd | exact p81 (named p.ds x.kw) _ _))
            | ((with_reducible apply me_val); exact rfl; (intro _ _ _ h; cases h); (focus (simp only [go_sem, hNE, hA, hkw, hlt, hle, hx, hw, HW, hin, hin2, encA, encD, encF, encI]; first | done | exact rfl)))
            | ((with_reducible apply me_callS); (focus (simp only [go_sem, hNE, hA, hkw, hlt, hle, hx, hw, HW, hin, hin2, encA, encD, encF, encI]; first | done | exact rfl)); (focus (simp only [go_sem, hNE, hA, hkw, hlt, hle, hx, hw, HW, hin, hin2, encA, encD, encF, encI]; first | done | exact rfl)); (focus (simp only [go_sem, hNE, hA, hkw, hlt, hle, hx, hw, HW, hin, hin2, encA, encD, encF, encI]; first | done | exact rfl)); (first | exact p91 p.ds x.kw hd | exact p81 (named p.ds x.kw) _ _))
            | ((with_reducible apply me_gval); exact rfl; (focus (simp only [go_sem, hNE, hA, hkw, hlt, hle, hx, hw, HW, hin, hin2, encA, encD, encF, encI]; first | done | exact rfl)); exact rfl; (intro _ _ _ h; cases h); (focus (intro hG; simp only [go_sem, hNE, hA, hkw, hlt, hle, hx, hw, HW, hin, hin2, encA, encD, encF, encI, hG]; first | done | exact rfl)))
            | ((with_reducible apply me_gno); exact rfl; (focus (simp only [go_sem, hNE, hA, hkw, hlt, hle, hx, hw, HW, hin, hin2, encA, encD, encF, encI]; first | done | exact rfl)); exact rfl)
            | ((with_reducible apply te_alloc); (focus (simp only [go_sem, hNE, hA, hkw, hlt, hle, hx, hw, HW, hin, hin2, encA, encD, encF, encI]; first | done | exact rfl)); exact rfl; exact rfl; (intro la ha hn1; have hNE := And.intro hNE hn1))
            | ((with_reducible apply te_store); (focus (simp only [go_sem, hNE, hA, hkw, hlt, hle, hx, hw, HW, hin, hin2, encA, encD, encF, encI]; first | done | exact rfl)); (focus (simp only [go_sem, hNE, hA, hkw, hlt, hle, hx, hw, HW, hin, hin2, encA, encD, encF, encI]; first | done | exact rfl)); (focus (simp only [go_sem, hNE, hA, hkw, hlt, hle, hx, hw, HW, hin, hin2, encA, encD, encF, encI]; first | done | exact rfl)); (focus (simp only [go_sem, hNE, hA, hkw, hlt, hle, hx, hw, HW, hin, hin2, encA, encD, encF, encI]; first | done | exact rfl)); (focus (simp only [go_sem, hNE, hA, hkw, hlt, hle, hx, hw, HW, hin, hin2, encA, encD, encF, encI]; first | done | exact rfl)); (focus (simp only [go_sem, hNE, hA, hkw, hlt, hle, hx, hw, HW, hin, hin2, encA, encD, encF, encI]; first | done | exact rfl)))
            | ((with_reducible apply t_cond); (focus (simp only [go_sem, hNE, hA, hkw, hlt, hle, hx, hw, HW, hin, hin2, encA, encD, encF, encI]; first | done | exact rfl)))
            | (with_reducible intro hc; with_reducible exact Bool.noConfusion hc)
            | (with_reducible intro hc; have hC := And.intro hC hc))
        (first | apply pend rs56 | apply pendN rs56); (focus (simp only [go_sem, e0_2, e0_6, e0_19, e0_20, h0_7, h0_21, hla, hm, encM]; first | done | exact rfl)); (focus (simp only [go_sem, e0_2, e0_6, e0_19, e0_20, h0_7, h0_21, hla, hm, encM]; first | done | exact rfl))
  · have hlt := nlt_int hi
    rw [at_end hi, mloop] at hr
    have hm : matchF p c = if mfin p.ds out = true then some out else none := by rw [matchF, ← hr]; rfl
    (have hA := And.intro e0_2 (And.intro e0_6 (And.intro e0_19 (And.intro e0_20 (And.intro h0_7 (And.intro h0_21 (hla)))))); have hNE := True.intro; have hC := True.intro; repeat' first
        | with_reducible refine k_seq ?_
        | with_reducible refine t_seq ?_
        | with_reducible refine t_reg ?_
        | with_reducible refine t_nil ?_
        | with_reducible refine t_exit ?_
        | with_reducible refine k_seq_exit ?_
        | with_reducible refine k_blk_exit ?_
        | with_reducible refine k_invE_exit ?_
        | with_reducible refine t_block ?_
        | ((with_reducible apply te_val); exact rfl; (intro _ _ _ h; cases h); (focus (simp only [go_sem, hNE, hA, hlt]; first | done | exact rfl)))
        | ((with_reducible apply t_cond); (focus (simp only [go_sem, hNE, hA, hlt]; first | done | exact rfl)))
        | (with_reducible intro hc; with_reducible exact Bool.noConfusion hc)
        | (with_reducible intro hc; have hC := And.intro hC hc))
    refine t_loopE (fun (k2 : Nat) (E2 : Nat → PV) (H2 : Hp) => ∃ (j : Nat), j + k2 = p.ds.length ∧ mfin (p.ds.drop j) (out.drop j) = mfin p.ds out ∧ H2 la = some (.row true 1 (out.map encI)) ∧ E2 88 = .int .i64 j) (p.ds.length) ⟨0, (by first | omega | rfl | assumption | (simp only [go_sem, e0_2, e0_6, e0_19, e0_20, h0_7, h0_21, hla, hlt]; first | done | rfl | assumption | omega)), (by first | omega | rfl | assumption | (simp only [go_sem, e0_2, e0_6, e0_19, e0_20, h0_7, h0_21, hla, hlt]; first | done | rfl | assumption | omega)), (by first | omega | rfl | assumption | (simp only [go_sem, e0_2, e0_6, e0_19, e0_20, h0_7, h0_21, hla, hlt]; first | done | rfl | assumption | omega)), (by simp only [go_sem, e0_2, e0_6, e0_19, e0_20, h0_7, h0_21, hla, hlt]; first | done | rfl)⟩ ?_
    rintro k2 E2 H2 hfr2 ⟨j, hk2, hr2, hla2, h2_88⟩
    have e2_6 := hfr2 6 rfl; have e2_86 := hfr2 86 rfl; have e2_87 := hfr2 87 rfl
    simp only [go_sem, e0_2, e0_6, e0_19, e0_20, h0_7, h0_21, hla, hlt] at e2_6 e2_86 e2_87
    clear hfr2
    by_cases hj : j < p.ds.length
    · obtain ⟨d, hx, hdr⟩ := at_list hj
      obtain ⟨v, hv, hvr⟩ := at_list (xs := out) (i := j) (by omega)
      have hlt := lt_int hj
      have hw := wrap_next hj hd
      have hle := Int.le_of_lt hlt
      rw [hdr, hvr, mfin] at hr2
      (have hA := And.intro e0_2 (And.intro e0_6 (And.intro e0_19 (And.intro e0_20 (And.intro h0_7 (And.intro h0_21 (And.intro hla (And.intro e2_6 (And.intro e2_86 (And.intro e2_87 (And.intro h2_88 (hla2))))))))))); have hNE := True.intro; have hC := True.intro; repeat' first
          | with_reducible refine k_seq ?_
          | with_reducible refine t_seq ?_
          | with_reducible refine t_reg ?_
          | with_reducible refine t_nil ?_
          | with_reducible refine t_skip ?_
          | with_reducible refine t_ret ?_
          | with_reducible refine k_seq_ret ?_
          | with_reducible refine k_blk_ret ?_
          | with_reducible refine k_blk ?_
          | with_reducible refine k_invE_ret ?_
          | with_reducible refine t_block ?_
          | ((with_reducible apply te_val); exact rfl; (intro _ _ _ h; cases h); (focus (simp only [go_sem, hNE, hA, hlt, hle, hx, hw, hv, encD, encI]; first | done | exact rfl)))
          | ((with_reducible apply te_gval); exact rfl; (focus (simp only [go_sem, hNE, hA, hlt, hle, hx, hw, hv, encD, encI]; first | done | exact rfl)); exact rfl; (intro _ _ _ h; cases h); (focus (intro hG; simp only [go_sem, hNE, hA, hlt, hle, hx, hw, hv, encD, encI, hG]; first | done | exact rfl)))
          | ((with_reducible apply te_alloc); (focus (simp only [go_sem, hNE, hA, hlt, hle, hx, hw, hv, encD, encI]; first | done | exact rfl)); exact rfl; exact rfl; (intro la ha hn1; have hNE := And.intro hNE hn1))
          | ((with_reducible apply te_store); (focus (simp only [go_sem, hNE, hA, hlt, hle, hx, hw, hv, encD, encI]; first | done | exact rfl)); (focus (simp only [go_sem, hNE, hA, hlt, hle, hx, hw, hv, encD, encI]; first | done | exact rfl)); (focus (simp only [go_sem, hNE, hA, hlt, hle, hx, hw, hv, encD, encI]; first | done | exact rfl)); (focus (simp only [go_sem, hNE, hA, hlt, hle, hx, hw, hv, encD, encI]; first | done | exact rfl)); (focus (simp only [go_sem, hNE, hA, hlt, hle, hx, hw, hv, encD, encI]; first | done | exact rfl)); (focus (simp only [go_sem, hNE, hA, hlt, hle, hx, hw, hv, encD, encI]; first | done | exact rfl)))
          | ((with_reducible apply t_cond); (focus (simp only [go_sem, hNE, hA, hlt, hle, hx, hw, hv, encD, encI]; first | done | exact rfl)))
          | (with_reducible intro hc; with_reducible exact Bool.noConfusion hc)
          | (with_reducible intro hc; have hC := And.intro hC hc))
      · have hm2 : matchF p c = none := by rw [hm, ← hr2]; simp only [hC, if_true, Bool.false_eq_true, if_false]
        (first | apply pend rs56 | apply pendN rs56); (focus (simp only [go_sem, e0_2, e0_6, e0_19, e0_20, h0_7, h0_21, hla, e2_6, e2_86, e2_87, h2_88, hla2, hm2, encM]; first | done | exact rfl)); (focus (simp only [go_sem, e0_2, e0_6, e0_19, e0_20, h0_7, h0_21, hla, e2_6, e2_86, e2_87, h2_88, hla2, hm2, encM]; first | done | exact rfl))
      · refine k_invE (k2 - 1) (by omega) ⟨j + 1, (by omega), ?_, (by simp only [go_sem, e0_2, e0_6, e0_19, e0_20, h0_7, h0_21, hla, e2_6, e2_86, e2_87, h2_88, hla2, hw, hNE]; first | done | rfl), (by simp only [go_sem, e0_2, e0_6, e0_19, e0_20, h0_7, h0_21, hla, e2_6, e2_86, e2_87, h2_88, hla2, hw]; first | done | rfl)⟩
        · simp only [hC, Bool.false_eq_true, if_false] at hr2; exact hr2
    · have hlt := nlt_int hj
      rw [at_end hj] at hr2
      have hm2 : matchF p c = some out := by rw [hm, ← hr2]; simp only [mfin, if_true]
      (have hA := And.intro e0_2 (And.intro e0_6 (And.intro e0_19 (And.intro e0_20 (And.intro h0_7 (And.intro h0_21 (And.intro hla (And.intro e2_6 (And.intro e2_86 (And.intro e2_87 (And.intro h2_88 (hla2))))))))))); have hNE := True.intro; have hC := True.intro; repeat' first
          | with_reducible refine k_seq ?_
          | with_reducible refine t_seq ?_
          | with_reducible refine t_reg ?_
          | with_reducible refine t_nil ?_
          | with_reducible refine t_ret ?_
          | with_reducible refine t_exit ?_
          | with_reducible refine k_seq_exit ?_
          | with_reducible refine k_blk_exit ?_
          | with_reducible refine k_invE_exit ?_
          | ((with_reducible apply te_val); exact rfl; (intro _ _ _ h; cases h); (focus (simp only [go_sem, hNE, hA, hlt]; first | done | exact rfl)))
          | ((with_reducible apply t_cond); (focus (simp only [go_sem, hNE, hA, hlt]; first | done | exact rfl)))
          | (with_reducible intro hc; with_reducible exact Bool.noConfusion hc)
          | (with_reducible intro hc; have hC := And.intro hC hc))
      (first | apply pend rs56 | apply pendN rs56); (focus (simp only [go_sem, e0_2, e0_6, e0_19, e0_20, h0_7, h0_21, hla, e2_6, e2_86, e2_87, h2_88, hla2, hm2, encM, hlen, clIs, nmI, nmI6, List.take_of_length_le (Nat.le_of_eq hlen)]; first | done | exact rfl)); (focus (simp only [go_sem, e0_2, e0_6, e0_19, e0_20, h0_7, h0_21, hla, e2_6, e2_86, e2_87, h2_88, hla2, hm2, encM, hlen, clIs, nmI, nmI6, List.take_of_length_le (Nat.le_of_eq hlen)]; first | done | exact rfl))
end Go.Proofs.Ytloecggdboingaa
namespace Go.Proofs.Ytloecggdboingaa
open Go.RowKit Go.Proofs
set_option linter.unusedVariables false
set_option linter.unusedSimpArgs false
attribute [local irreducible] PPure

theorem p47b (n lo hi : Int) : PPure Try.prog 47 [.int .i64 n, .int .i64 lo, .int .i64 hi] (.bool (decide (lo ≤ n) && decide (n ≤ hi))) := by
  have h := p47 n lo hi
  have e : (!(decide (n < lo) || decide (hi < n))) = (decide (lo ≤ n) && decide (n ≤ hi)) := by
    rw [Bool.eq_iff_iff]; simp
  rw [e] at h; exact h

set_option maxHeartbeats 4000000 in
theorem p38 (p : Prc) (c : List Act) (hd : p.ds.length ≤ 1000) (hcl : c.length ≤ 1000) : PPure Try.prog 38 [encP p, .list .any (c.map encA)] (encM (matchF p c)) := by
  simp only [encP]
  (refine ppure_of_T ok38 (by simp only [List.length_cons, List.length_nil]; decide) ?_; refine t_seq ?_)
  (have hNE := True.intro; have hC := True.intro; repeat' first
      | with_reducible refine k_seq ?_
      | with_reducible refine t_seq ?_
      | with_reducible refine t_reg ?_
      | with_reducible refine t_nil ?_
      | with_reducible refine t_block ?_
      | ((with_reducible apply te_val); exact rfl; (intro _ _ _ h; cases h); (focus (simp only [go_sem, hNE]; first | done | exact rfl)))
      | ((with_reducible apply te_box); (focus (simp only [go_sem, hNE]; first | done | exact rfl)); exact rfl; (focus (simp only [go_sem, hNE]; first | done | exact rfl))))
  refine t_loopE (fun (k0 : Nat) (E0 : Nat → PV) (H0 : Hp) => ∃ (i : Nat), i + k0 = p.ds.length ∧ Acc H0 (E0 6) 1 ((List.replicate i (-1)).map encI) ∧ E0 7 = .int .i64 i) (p.ds.length) ⟨0, (by first | omega | rfl | assumption | (simp only [go_sem]; first | done | rfl | assumption | omega)), ?_, (by simp only [go_sem]; first | done | rfl)⟩ ?_
  · exact Acc.nil _ _
  rintro k0 E0 H0 hfr0 ⟨i, hk, hacc, h0_7⟩
  have e0_1 := hfr0 1 rfl; have e0_2 := hfr0 2 rfl; have e0_4 := hfr0 4 rfl; have e0_5 := hfr0 5 rfl
  simp only [go_sem] at e0_1 e0_2 e0_4 e0_5
  clear hfr0
  by_cases hi : i < p.ds.length
  · have hlt := lt_int hi
    have hw := wrap_next hi hd
    have hle := Int.le_of_lt hlt
    (have hA := And.intro e0_1 (And.intro e0_2 (And.intro e0_4 (And.intro e0_5 (h0_7)))); have hNE := True.intro; have hC := True.intro; repeat' first
        | with_reducible refine k_seq ?_
        | with_reducible refine t_seq ?_
        | with_reducible refine t_reg ?_
        | with_reducible refine t_nil ?_
        | with_reducible refine t_skip ?_
        | with_reducible refine k_blk ?_
        | with_reducible refine t_block ?_
        | ((with_reducible apply te_val); exact rfl; (intro _ _ _ h; cases h); (focus (simp only [go_sem, hNE, hA, hlt, hw, hle]; first | done | exact rfl)))
        | ((with_reducible apply te_appendG); (with_reducible exact app_27; with_reducible exact c_3); (focus (simp only [go_sem, hNE, hA, hlt, hw, hle]; first | done | exact rfl)); (first | exact hacc | exact hacc.upd2 (by assumption) | exact hacc.upd1 (by assumption) | (focus (refine Acc.sub hacc (fun l c hl => ?_); simp only [go_sem, hNE, hA, hlt, hw, hle, hl]))); (focus (simp only [go_sem, hNE, hA, hlt, hw, hle]; first | done | exact rfl)); exact rfl; (focus (simp only [go_sem, hNE, hA, hlt, hw, hle]; done)); (focus (simp only [go_sem, hNE, hA, hlt, hw, hle, roomB, List.length_take, List.length_append]; first | done | omega)); (intro u Hn hacc))
        | ((with_reducible apply t_cond); (focus (simp only [go_sem, hNE, hA, hlt, hw, hle]; first | done | exact rfl)))
        | (with_reducible intro hc; with_reducible exact Bool.noConfusion hc)
        | (with_reducible intro hc; have hC := And.intro hC hc))
    refine k_invE (k0 - 1) (by omega) ⟨i + 1, (by omega), ?_, (by simp only [go_sem, e0_1, e0_2, e0_4, e0_5, h0_7, hw]; first | done | rfl)⟩
    rw [List.replicate_succ', List.map_append]
    exact hacc
  · have hlt := nlt_int hi
    have hie : i = p.ds.length := by omega
    subst hie
    rcases hacc with ⟨hz, q, hq, h0_6⟩ | ⟨la, h0_6, hla⟩
    · have hz' : p.ds = [] := by
        cases hds : p.ds with
        | nil => rfl
        | cons y ys => rw [hds] at hz; simp [List.replicate_succ] at hz
      have hm0 : ∀ x r, mstep p.ds 0 x [] r = none := by
        intro x r
        have : (decide (0 ≤ actAt p.ds 0 x) && decide (actAt p.ds 0 x ≤ (([] : List Int).length : Int) - 1)) = false := by
          rw [Bool.and_eq_false_iff, decide_eq_false_iff_not, decide_eq_false_iff_not]; simp only [List.length_nil]; omega
        simp only [mstep, this, if_true]
      have HW0 : IntKind.i64.wrap (((0 : Nat) : Int) - 1) = -1 := by decide
      (have hA := And.intro e0_1 (And.intro e0_2 (And.intro e0_4 (And.intro e0_5 (h0_7)))); have hNE := True.intro; have hC := True.intro; repeat' first
          | with_reducible refine k_seq ?_
          | with_reducible refine t_seq ?_
          | with_reducible refine t_reg ?_
          | with_reducible refine t_nil ?_
          | with_reducible refine t_exit ?_
          | with_reducible refine k_seq_exit ?_
          | with_reducible refine k_blk_exit ?_
          | with_reducible refine k_invE_exit ?_
          | with_reducible refine t_block ?_
          | ((with_reducible apply te_val); exact rfl; (intro _ _ _ h; cases h); (focus (simp only [go_sem, hNE, hA, hlt, h0_6]; first | done | exact rfl)))
          | ((with_reducible apply t_cond); (focus (simp only [go_sem, hNE, hA, hlt, h0_6]; first | done | exact rfl)))
          | (with_reducible intro hc; with_reducible exact Bool.noConfusion hc)
          | (with_reducible intro hc; have hC := And.intro hC hc))
      refine t_loopE (fun (k2 : Nat) (E2 : Nat → PV) (H2 : Hp) => E2 9 = .int .i64 0) (0) (by simp only [go_sem, e0_1, e0_2, e0_4, e0_5, h0_7, h0_6, hlt]; first | done | rfl) ?_
      rintro k2 E2 H2 hfr2 h2_9
      have e2_1 := hfr2 1 rfl; have e2_2 := hfr2 2 rfl; have e2_6 := hfr2 6 rfl
      simp only [go_sem, e0_1, e0_2, e0_4, e0_5, h0_7, h0_6, hlt] at e2_1 e2_2 e2_6
      clear hfr2
      cases c with
      | nil =>
        have hm : matchF p [] = some [] := by simp only [matchF, hz', mloop, List.length_nil, List.replicate_zero, Option.bind_some, mfin, if_true]
        (have hA := And.intro e0_1 (And.intro e0_2 (And.intro e0_4 (And.intro e0_5 (And.intro h0_7 (And.intro e2_1 (And.intro e2_2 (And.intro e2_6 (h2_9)))))))); have hNE := True.intro; have hC := True.intro; repeat' first
            | with_reducible refine k_seq ?_
            | with_reducible refine t_seq ?_
            | with_reducible refine t_reg ?_
            | with_reducible refine t_nil ?_
            | with_reducible refine t_exit ?_
            | with_reducible refine k_seq_exit ?_
            | with_reducible refine k_blk_exit ?_
            | with_reducible refine k_invE_exit ?_
            | with_reducible refine t_block ?_
            | ((with_reducible apply te_val); exact rfl; (intro _ _ _ h; cases h); (focus (simp only [go_sem, hNE, hA, Int.lt_irrefl, cast0]; first | done | exact rfl)))
            | ((with_reducible apply t_cond); (focus (simp only [go_sem, hNE, hA, Int.lt_irrefl, cast0]; first | done | exact rfl)))
            | (with_reducible intro hc; with_reducible exact Bool.noConfusion hc)
            | (with_reducible intro hc; have hC := And.intro hC hc))
        refine t_loopE (fun (k4 : Nat) (E4 : Nat → PV) (H4 : Hp) => E4 12 = .int .i64 0) (0) (by simp only [go_sem, e0_1, e0_2, e0_4, e0_5, h0_7, e2_1, e2_2, e2_6, h2_9, h0_6, hlt]; first | done | rfl) ?_
        rintro k4 E4 H4 hfr4 h4_12
        have e4_2 := hfr4 2 rfl; have e4_6 := hfr4 6 rfl
        simp only [go_sem, e0_1, e0_2, e0_4, e0_5, h0_7, e2_1, e2_2, e2_6, h2_9, h0_6, hlt] at e4_2 e4_6
        clear hfr4
        (have hA := And.intro e0_1 (And.intro e0_2 (And.intro e0_4 (And.intro e0_5 (And.intro h0_7 (And.intro e2_1 (And.intro e2_2 (And.intro e2_6 (And.intro h2_9 (And.intro e4_2 (And.intro e4_6 (h4_12))))))))))); have hNE := True.intro; have hC := True.intro; repeat' first
            | with_reducible refine k_seq ?_
            | with_reducible refine t_seq ?_
            | with_reducible refine t_reg ?_
            | with_reducible refine t_nil ?_
            | with_reducible refine t_ret ?_
            | with_reducible refine t_exit ?_
            | with_reducible refine k_seq_exit ?_
            | with_reducible refine k_blk_exit ?_
            | with_reducible refine k_invE_exit ?_
            | ((with_reducible apply te_val); exact rfl; (intro _ _ _ h; cases h); (focus (simp only [go_sem, hNE, hA, Int.lt_irrefl, cast0]; first | done | exact rfl)))
            | ((with_reducible apply t_cond); (focus (simp only [go_sem, hNE, hA, Int.lt_irrefl, cast0]; first | done | exact rfl)))
            | (with_reducible intro hc; with_reducible exact Bool.noConfusion hc)
            | (with_reducible intro hc; have hC := And.intro hC hc))
        (first | apply pend rs38 | apply pendN rs38); (focus (simp only [go_sem, e0_1, e0_2, e0_4, e0_5, h0_7, e2_1, e2_2, e2_6, h2_9, e4_2, e4_6, h4_12, hm, encM, hq]; first | done | exact rfl)); (focus (simp only [go_sem, e0_1, e0_2, e0_4, e0_5, h0_7, e2_1, e2_2, e2_6, h2_9, e4_2, e4_6, h4_12, hm, encM, hq]; first | done | exact rfl))
      | cons x rest =>
        skip
        have hm : matchF p (x :: rest) = none := by simp only [matchF, hz', mloop, List.length_nil, List.replicate_zero]; rw [← hz', hm0, Option.bind_none, Option.bind_none]
        have hl1 : ((0 : Int) < ((rest.length + 1 : Nat) : Int)) = True := eq_true (by omega)
        have hl2 : ((0 : Int) ≤ ((rest.length + 1 : Nat) : Int)) = True := eq_true (by omega)
        cases hkw : (x.kw == []) with
        | true =>
          (have hA := And.intro e0_1 (And.intro e0_2 (And.intro e0_4 (And.intro e0_5 (And.intro h0_7 (And.intro e2_1 (And.intro e2_2 (And.intro e2_6 (h2_9)))))))); have hNE := True.intro; have hC := True.intro; repeat' first
              | ((with_reducible apply te_drwE); (focus (simp only [effFl, List.map_cons, List.map_nil]; exact rfl)); (focus decide +kernel))
              | with_reducible refine k_seq ?_
              | with_reducible refine t_seq ?_
              | with_reducible refine t_reg ?_
              | with_reducible refine t_nil ?_
              | with_reducible refine t_skip ?_
              | with_reducible refine t_ret ?_
              | with_reducible refine k_seq_ret ?_
              | with_reducible refine k_blk_ret ?_
              | with_reducible refine k_invE_ret ?_
              | with_reducible refine t_block ?_
              | with_reducible refine m_nil ?_
              | ((with_reducible apply te_val); exact rfl; (intro _ _ _ h; cases h); (focus (simp only [go_sem, hNE, hA, hl1, hl2, hkw, HW0, hz', encA, encD, encF, encI, Int.le_refl]; first | done | exact rfl)))
              | ((with_reducible apply me_val); exact rfl; (intro _ _ _ h; cases h); (focus (simp only [go_sem, hNE, hA, hl1, hl2, hkw, HW0, hz', encA, encD, encF, encI, Int.le_refl]; first | done | exact rfl)))
              | ((with_reducible apply me_callS); (focus (simp only [go_sem, hNE, hA, hl1, hl2, hkw, HW0, hz', encA, encD, encF, encI, Int.le_refl]; first | done | exact rfl)); (focus (simp only [go_sem, hNE, hA, hl1, hl2, hkw, HW0, hz', encA, encD, encF, encI, Int.le_refl]; first | done | exact rfl)); (focus (simp only [go_sem, hNE, hA, hl1, hl2, hkw, HW0, hz', encA, encD, encF, encI, Int.le_refl]; first | done | exact rfl)); (first | exact p62 p.ds x.kw hd | exact p47b _ _ _))
              | ((with_reducible apply me_gval); exact rfl; (focus (simp only [go_sem, hNE, hA, hl1, hl2, hkw, HW0, hz', encA, encD, encF, encI, Int.le_refl]; first | done | exact rfl)); exact rfl; (intro _ _ _ h; cases h); (focus (intro hG; simp only [go_sem, hNE, hA, hl1, hl2, hkw, HW0, hz', encA, encD, encF, encI, Int.le_refl, hG]; first | done | exact rfl)))
              | ((with_reducible apply me_gno); exact rfl; (focus (simp only [go_sem, hNE, hA, hl1, hl2, hkw, HW0, hz', encA, encD, encF, encI, Int.le_refl]; first | done | exact rfl)); exact rfl)
              | ((with_reducible apply t_cond); (focus (simp only [go_sem, hNE, hA, hl1, hl2, hkw, HW0, hz', encA, encD, encF, encI, Int.le_refl]; first | done | exact rfl)))
              | (with_reducible intro hc; with_reducible exact Bool.noConfusion hc)
              | (with_reducible intro hc; have hC := And.intro hC hc))
          (first | apply pend rs38 | apply pendN rs38); (focus (simp only [go_sem, e0_1, e0_2, e0_4, e0_5, h0_7, e2_1, e2_2, e2_6, h2_9, hm, encM]; first | done | exact rfl)); (focus (simp only [go_sem, e0_1, e0_2, e0_4, e0_5, h0_7, e2_1, e2_2, e2_6, h2_9, hm, encM]; first | done | exact rfl))
        | false =>
          have hnm : named [] x.kw = -1 := rfl
          have hq := p62 [] x.kw (by decide)
          (have hA := And.intro e0_1 (And.intro e0_2 (And.intro e0_4 (And.intro e0_5 (And.intro h0_7 (And.intro e2_1 (And.intro e2_2 (And.intro e2_6 (h2_9)))))))); have hNE := True.intro; have hC := True.intro; repeat' first
              | ((with_reducible apply te_drwE); (focus (simp only [effFl, List.map_cons, List.map_nil]; exact rfl)); (focus decide +kernel))
              | with_reducible refine k_seq ?_
              | with_reducible refine t_seq ?_
              | with_reducible refine t_reg ?_
              | with_reducible refine t_nil ?_
              | with_reducible refine t_skip ?_
              | with_reducible refine t_ret ?_
              | with_reducible refine k_seq_ret ?_
              | with_reducible refine k_blk_ret ?_
              | with_reducible refine k_invE_ret ?_
              | with_reducible refine t_block ?_
              | with_reducible refine m_nil ?_
              | ((with_reducible apply te_val); exact rfl; (intro _ _ _ h; cases h); (focus (simp only [go_sem, hNE, hA, hl1, hl2, hkw, hnm, HW0, hz', encA, encD, encF, encI, Int.le_refl]; first | done | exact rfl)))
              | ((with_reducible apply me_val); exact rfl; (intro _ _ _ h; cases h); (focus (simp only [go_sem, hNE, hA, hl1, hl2, hkw, hnm, HW0, hz', encA, encD, encF, encI, Int.le_refl]; first | done | exact rfl)))
              | ((with_reducible apply me_callS); (focus (simp only [go_sem, hNE, hA, hl1, hl2, hkw, hnm, HW0, hz', encA, encD, encF, encI, Int.le_refl]; first | done | exact rfl)); (focus (simp only [go_sem, hNE, hA, hl1, hl2, hkw, hnm, HW0, hz', encA, encD, encF, encI, Int.le_refl]; first | done | exact rfl)); (focus (simp only [go_sem, hNE, hA, hl1, hl2, hkw, hnm, HW0, hz', encA, encD, encF, encI, Int.le_refl]; first | done | exact rfl)); (first | exact hq | exact p47b _ _ _))
              | ((with_reducible apply me_gval); exact rfl; (focus (simp only [go_sem, hNE, hA, hl1, hl2, hkw, hnm, HW0, hz', encA, encD, encF, encI, Int.le_refl]; first | done | exact rfl)); exact rfl; (intro _ _ _ h; cases h); (focus (intro hG; simp only [go_sem, hNE, hA, hl1, hl2, hkw, hnm, HW0, hz', encA, encD, encF, encI, Int.le_refl, hG]; first | done | exact rfl)))
              | ((with_reducible apply me_gno); exact rfl; (focus (simp only [go_sem, hNE, hA, hl1, hl2, hkw, hnm, HW0, hz', encA, encD, encF, encI, Int.le_refl]; first | done | exact rfl)); exact rfl)
              | ((with_reducible apply t_cond); (focus (simp only [go_sem, hNE, hA, hl1, hl2, hkw, hnm, HW0, hz', encA, encD, encF, encI, Int.le_refl]; first | done | exact rfl)))
              | (with_reducible intro hc; with_reducible exact Bool.noConfusion hc)
              | (with_reducible intro hc; have hC := And.intro hC hc))
          (first | apply pend rs38 | apply pendN rs38); (focus (simp only [go_sem, e0_1, e0_2, e0_4, e0_5, h0_7, e2_1, e2_2, e2_6, h2_9, hm, encM]; first | done | exact rfl)); (focus (simp only [go_sem, e0_1, e0_2, e0_4, e0_5, h0_7, e2_1, e2_2, e2_6, h2_9, hm, encM]; first | done | exact rfl))
    · skip
      rw [List.length_map, List.length_replicate] at h0_6
      skip
      (have hA := And.intro e0_1 (And.intro e0_2 (And.intro e0_4 (And.intro e0_5 (And.intro h0_7 (h0_6))))); have hNE := True.intro; have hC := True.intro; repeat' first
          | with_reducible refine k_seq ?_
          | with_reducible refine t_seq ?_
          | with_reducible refine t_reg ?_
          | with_reducible refine t_nil ?_
          | with_reducible refine t_exit ?_
          | with_reducible refine k_seq_exit ?_
          | with_reducible refine k_blk_exit ?_
          | with_reducible refine k_invE_exit ?_
          | with_reducible refine t_block ?_
          | ((with_reducible apply te_val); exact rfl; (intro _ _ _ h; cases h); (focus (simp only [go_sem, hNE, hA, hlt]; first | done | exact rfl)))
          | ((with_reducible apply t_cond); (focus (simp only [go_sem, hNE, hA, hlt]; first | done | exact rfl)))
          | (with_reducible intro hc; with_reducible exact Bool.noConfusion hc)
          | (with_reducible intro hc; have hC := And.intro hC hc))
      refine t_loopE (fun (k2 : Nat) (E2 : Nat → PV) (H2 : Hp) => ∃ (i : Nat) (out : List Int) (r : Int), i + k2 = c.length ∧ mloop p.ds (c.drop i) i out r = mloop p.ds c 0 (List.replicate p.ds.length (-1)) 0 ∧ out.length = p.ds.length ∧ H2 la = some (.row true 1 (out.map encI)) ∧ E2 8 = .int .i64 r ∧ E2 9 = .int .i64 i) (c.length) ⟨0, List.replicate p.ds.length (-1), 0, (by first | omega | rfl | assumption | (simp only [go_sem, e0_1, e0_2, e0_4, e0_5, h0_7, h0_6]; first | done | rfl | assumption | omega)), ?_, ?_, ?_, (by simp only [go_sem, e0_1, e0_2, e0_4, e0_5, h0_7, h0_6]; first | done | rfl), (by simp only [go_sem, e0_1, e0_2, e0_4, e0_5, h0_7, h0_6]; first | done | rfl)⟩ ?_
      · rfl
      · exact List.length_replicate
      · exact hla
      rintro k2 E2 H2 hfr2 ⟨i, out, r, hk, hr, hlen, hla, h2_8, h2_9⟩
      have e2_1 := hfr2 1 rfl; have e2_2 := hfr2 2 rfl; have e2_6 := hfr2 6 rfl
      simp only [go_sem, e0_1, e0_2, e0_4, e0_5, h0_7, h0_6] at e2_1 e2_2 e2_6
      clear hfr2
      by_cases hi : i < c.length
      · obtain ⟨x, hx, hdr⟩ := at_list hi
        have hlt := lt_int hi
        have hw := wrap_next hi hcl
        have hle := Int.le_of_lt hlt
        rw [hdr, mloop] at hr
        cases hkw : (x.kw == []) with
        | true =>
          have hat : actAt p.ds i x = (i : Int) := by simp [actAt, hkw]
          have HW : IntKind.i64.wrap ((p.ds.length : Int) - 1) = (p.ds.length : Int) - 1 := by rw [IntKind.wrap_i64]; omega
          have hlo := congrArg (fun n : Nat => (n : Int)) hlen
          cases hin : (decide (0 ≤ (i : Int)) && decide ((i : Int) ≤ (p.ds.length : Int) - 1)) with
          | true =>
            have hin' := hin
            simp only [Bool.and_eq_true, decide_eq_true_eq] at hin'
            obtain ⟨g0, g1⟩ := hin'
            have g2 : (i : Int) < (p.ds.length : Int) := by omega
            obtain ⟨v, hv⟩ := get_dec (l := out) g0 (by omega)
            obtain ⟨d, hdd⟩ := get_dec g0 g2
            have HV := hv
            have HD := hdd
            try simp only [Int.toNat_natCast] at HV HD
            (have hA := And.intro e0_1 (And.intro e0_2 (And.intro e0_4 (And.intro e0_5 (And.intro h0_7 (And.intro h0_6 (And.intro e2_1 (And.intro e2_2 (And.intro e2_6 (And.intro h2_8 (And.intro h2_9 (hla))))))))))); have hNE := True.intro; have hC := True.intro; repeat' first
                | ((with_reducible apply te_drwE); (focus (simp only [effFl, List.map_cons, List.map_nil]; exact rfl)); (focus decide +kernel))
                | with_reducible refine k_seq ?_
                | with_reducible refine t_seq ?_
                | with_reducible refine t_reg ?_
                | with_reducible refine t_nil ?_
                | with_reducible refine t_skip ?_
                | with_reducible refine t_ret ?_
                | with_reducible refine k_seq_ret ?_
                | with_reducible refine k_blk_ret ?_
                | with_reducible refine k_blk ?_
                | with_reducible refine k_invE_ret ?_
                | with_reducible refine t_block ?_
                | with_reducible refine m_nil ?_
                | ((with_reducible apply te_val); exact rfl; (intro _ _ _ h; cases h); (focus (simp only [go_sem, hNE, hA, hkw, hlt, hle, hx, hw, HW, hin, g0, g1, g2, HV, HD, encA, encD, encF, encI]; first | done | exact rfl)))
                | ((with_reducible apply te_gval); exact rfl; (focus (simp only [go_sem, hNE, hA, hkw, hlt, hle, hx, hw, HW, hin, g0, g1, g2, HV, HD, encA, encD, encF, encI]; first | done | exact rfl)); exact rfl; (intro _ _ _ h; cases h); (focus (intro hG; simp only [go_sem, hNE, hA, hkw, hlt, hle, hx, hw, HW, hin, g0, g1, g2, HV, HD, encA, encD, encF, encI, hG]; first | done | exact rfl)))
                | ((with_reducible apply me_val); exact rfl; (intro _ _ _ h; cases h); (focus (simp only [go_sem, hNE, hA, hkw, hlt, hle, hx, hw, HW, hin, g0, g1, g2, HV, HD, encA, encD, encF, encI]; first | done | exact rfl)))
                | ((with_reducible apply me_callS); (focus (simp only [go_sem, hNE, hA, hkw, hlt, hle, hx, hw, HW, hin, g0, g1, g2, HV, HD, encA, encD, encF, encI]; first | done | exact rfl)); (focus (simp only [go_sem, hNE, hA, hkw, hlt, hle, hx, hw, HW, hin, g0, g1, g2, HV, HD, encA, encD, encF, encI]; first | done | exact rfl)); (focus (simp only [go_sem, hNE, hA, hkw, hlt, hle, hx, hw, HW, hin, g0, g1, g2, HV, HD, encA, encD, encF, encI]; first | done | exact rfl)); (first | exact p62 p.ds x.kw hd | exact p47b (i : Int) _ _ | exact p80 d x.f))
                | ((with_reducible apply me_gval); exact rfl; (focus (simp only [go_sem, hNE, hA, hkw, hlt, hle, hx, hw, HW, hin, g0, g1, g2, HV, HD, encA, encD, encF, encI]; first | done | exact rfl)); exact rfl; (intro _ _ _ h; cases h); (focus (intro hG; simp only [go_sem, hNE, hA, hkw, hlt, hle, hx, hw, HW, hin, g0, g1, g2, HV, HD, encA, encD, encF, encI, hG]; first | done | exact rfl)))
                | ((with_reducible apply me_gcallS); exact rfl; (focus (simp only [go_sem, hNE, hA, hkw, hlt, hle, hx, hw, HW, hin, g0, g1, g2, HV, HD, encA, encD, encF, encI]; first | done | exact rfl)); (focus (simp only [go_sem, hNE, hA, hkw, hlt, hle, hx, hw, HW, hin, g0, g1, g2, HV, HD, encA, encD, encF, encI]; first | done | exact rfl)); (focus (intro hG; simp only [go_sem, hNE, hA, hkw, hlt, hle, hx, hw, HW, hin, g0, g1, g2, HV, HD, encA, encD, encF, encI, hG]; first | done | exact rfl)); (focus (simp only [go_sem, hNE, hA, hkw, hlt, hle, hx, hw, HW, hin, g0, g1, g2, HV, HD, encA, encD, encF, encI]; done)); (intro hG; first | exact p62 p.ds x.kw hd | exact p47b (i : Int) _ _ | exact p80 d x.f))
                | ((with_reducible apply te_store); (focus (simp only [go_sem, hNE, hA, hkw, hlt, hle, hx, hw, HW, hin, g0, g1, g2, HV, HD, encA, encD, encF, encI]; first | done | exact rfl)); (focus (simp only [go_sem, hNE, hA, hkw, hlt, hle, hx, hw, HW, hin, g0, g1, g2, HV, HD, encA, encD, encF, encI]; first | done | exact rfl)); (focus (simp only [go_sem, hNE, hA, hkw, hlt, hle, hx, hw, HW, hin, g0, g1, g2, HV, HD, encA, encD, encF, encI]; first | done | exact rfl)); (focus (simp only [go_sem, hNE, hA, hkw, hlt, hle, hx, hw, HW, hin, g0, g1, g2, HV, HD, encA, encD, encF, encI]; first | done | exact rfl)); (focus (simp only [go_sem, hNE, hA, hkw, hlt, hle, hx, hw, HW, hin, g0, g1, g2, HV, HD, encA, encD, encF, encI]; first | done | exact rfl)); (focus (simp only [go_sem, hNE, hA, hkw, hlt, hle, hx, hw, HW, hin, g0, g1, g2, HV, HD, encA, encD, encF, encI]; first | done | exact rfl)))
                | ((with_reducible apply t_cond); (focus (simp only [go_sem, hNE, hA, hkw, hlt, hle, hx, hw, HW, hin, g0, g1, g2, HV, HD, encA, encD, encF, encI]; first | done | exact rfl)))
                | (with_reducible intro hc; with_reducible exact Bool.noConfusion hc)
                | (with_reducible intro hc; have hC := And.intro hC hc))
            all_goals (rw [show mstep p.ds i x out r = mtake i x out r (i : Int) v d by simp only [mstep, hat, hlo, hin, hv, hdd]; rfl] at hr)
            all_goals (simp only [mtake, hC, if_true, if_false, Bool.false_eq_true, Option.bind_none, Option.bind_some] at hr)
            · have hm : matchF p c = none := by rw [matchF, ← hr]; rfl
              (first | apply pend rs38 | apply pendN rs38); (focus (simp only [go_sem, e0_1, e0_2, e0_4, e0_5, h0_7, h0_6, e2_1, e2_2, e2_6, h2_8, h2_9, hla, hm, encM]; first | done | exact rfl)); (focus (simp only [go_sem, e0_1, e0_2, e0_4, e0_5, h0_7, h0_6, e2_1, e2_2, e2_6, h2_8, h2_9, hla, hm, encM]; first | done | exact rfl))
            · have hm : matchF p c = none := by rw [matchF, ← hr]; rfl
              (first | apply pend rs38 | apply pendN rs38); (focus (simp only [go_sem, e0_1, e0_2, e0_4, e0_5, h0_7, h0_6, e2_1, e2_2, e2_6, h2_8, h2_9, hla, hm, encM]; first | done | exact rfl)); (focus (simp only [go_sem, e0_1, e0_2, e0_4, e0_5, h0_7, h0_6, e2_1, e2_2, e2_6, h2_8, h2_9, hla, hm, encM]; first | done | exact rfl))
            · refine k_invE (k2 - 1) (by omega) ⟨i + 1, out.set (i : Int).toNat (i : Int), x.f.r, (by omega), ?_, ?_, (by simp only [go_sem, e0_1, e0_2, e0_4, e0_5, h0_7, h0_6, e2_1, e2_2, e2_6, h2_8, h2_9, hla, hw, setI, hNE]; first | done | rfl), (by simp only [go_sem, e0_1, e0_2, e0_4, e0_5, h0_7, h0_6, e2_1, e2_2, e2_6, h2_8, h2_9, hla, hw, setI]; first | done | rfl), (by simp only [go_sem, e0_1, e0_2, e0_4, e0_5, h0_7, h0_6, e2_1, e2_2, e2_6, h2_8, h2_9, hla, hw, setI]; first | done | rfl)⟩
              · exact hr
              · rw [List.length_set]; exact hlen
            · refine k_invE (k2 - 1) (by omega) ⟨i + 1, out.set (i : Int).toNat (i : Int), r, (by omega), ?_, ?_, (by simp only [go_sem, e0_1, e0_2, e0_4, e0_5, h0_7, h0_6, e2_1, e2_2, e2_6, h2_8, h2_9, hla, hw, setI, hNE]; first | done | rfl), (by simp only [go_sem, e0_1, e0_2, e0_4, e0_5, h0_7, h0_6, e2_1, e2_2, e2_6, h2_8, h2_9, hla, hw, setI]; first | done | rfl), (by simp only [go_sem, e0_1, e0_2, e0_4, e0_5, h0_7, h0_6, e2_1, e2_2, e2_6, h2_8, h2_9, hla, hw, setI]; first | done | rfl)⟩
              · exact hr
              · rw [List.length_set]; exact hlen
          | false =>
            have hn : mstep p.ds i x out r = none := by simp only [mstep, hat, hlo, hin, if_true]
            rw [hn, Option.bind_none] at hr
            have hm : matchF p c = none := by rw [matchF, ← hr]; rfl
            have hin2 := hin
            try simp only [Int.natCast_nonneg, decide_true, Bool.true_and] at hin2
            (have hA := And.intro e0_1 (And.intro e0_2 (And.intro e0_4 (And.intro e0_5 (And.intro h0_7 (And.intro h0_6 (And.intro e2_1 (And.intro e2_2 (And.intro e2_6 (And.intro h2_8 (And.intro h2_9 (hla))))))))))); have hNE := True.intro; have hC := True.intro; repeat' first
                | ((with_reducible apply te_drwE); (focus (simp only [effFl, List.map_cons, List.map_nil]; exact rfl)); (focus decide +kernel))
                | with_reducible refine k_seq ?_
                | with_reducible refine t_seq ?_
                | with_reducible refine t_reg ?_
                | with_reducible refine t_nil ?_
                | with_reducible refine t_skip ?_
                | with_reducible refine t_ret ?_
                | with_reducible refine k_seq_ret ?_
                | with_reducible refine k_blk_ret ?_
                | with_reducible refine k_invE_ret ?_
                | with_reducible refine t_block ?_
                | with_reducible refine m_nil ?_
                | ((with_reducible apply te_val); exact rfl; (intro _ _ _ h; cases h); (focus (simp only [go_sem, hNE, hA, hkw, hlt, hle, hx, hw, HW, hin, hin2, encA, encD, encF, encI]; first | done | exact rfl)))
                | ((with_reducible apply me_val); exact rfl; (intro _ _ _ h; cases h); (focus (simp only [go_sem, hNE, hA, hkw, hlt, hle, hx, hw, HW, hin, hin2, encA, encD, encF, encI]; first | done | exact rfl)))
                | ((with_reducible apply me_callS); (focus (simp only [go_sem, hNE, hA, hkw, hlt, hle, hx, hw, HW, hin, hin2, encA, encD, encF, encI]; first | done | exact rfl)); (focus (simp only [go_sem, hNE, hA, hkw, hlt, hle, hx, hw, HW, hin, hin2, encA, encD, encF, encI]; first | done | exact rfl)); (focus (simp only [go_sem, hNE, hA, hkw, hlt, hle, hx, hw, HW, hin, hin2, encA, encD, encF, encI]; first | done | exact rfl)); (first | exact p62 p.ds x.kw hd | exact p47b (i : Int) _ _))
                | ((with_reducible apply me_gval); exact rfl; (focus (simp only [go_sem, hNE, hA, hkw, hlt, hle, hx, hw, HW, hin, hin2, encA, encD, encF, encI]; first | done | exact rfl)); exact rfl; (intro _ _ _ h; cases h); (focus (intro hG; simp only [go_sem, hNE, hA, hkw, hlt, hle, hx, hw, HW, hin, hin2, encA, encD, encF, encI, hG]; first | done | exact rfl)))
                | ((with_reducible apply me_gno); exact rfl; (focus (simp only [go_sem, hNE, hA, hkw, hlt, hle, hx, hw, HW, hin, hin2, encA, encD, encF, encI]; first | done | exact rfl)); exact rfl)
                | ((with_reducible apply t_cond); (focus (simp only [go_sem, hNE, hA, hkw, hlt, hle, hx, hw, HW, hin, hin2, encA, encD, encF, encI]; first | done | exact rfl)))
                | (with_reducible intro hc; with_reducible exact Bool.noConfusion hc)
                | (with_reducible intro hc; have hC := And.intro hC hc))
            (first | apply pend rs38 | apply pendN rs38); (focus (simp only [go_sem, e0_1, e0_2, e0_4, e0_5, h0_7, h0_6, e2_1, e2_2, e2_6, h2_8, h2_9, hla, hm, encM]; first | done | exact rfl)); (focus (simp only [go_sem, e0_1, e0_2, e0_4, e0_5, h0_7, h0_6, e2_1, e2_2, e2_6, h2_8, h2_9, hla, hm, encM]; first | done | exact rfl))
        | false =>
          have hat : actAt p.ds i x = named p.ds x.kw := by simp [actAt, hkw]
          have HW : IntKind.i64.wrap ((p.ds.length : Int) - 1) = (p.ds.length : Int) - 1 := by rw [IntKind.wrap_i64]; omega
          have hlo := congrArg (fun n : Nat => (n : Int)) hlen
          cases hin : (decide (0 ≤ (named p.ds x.kw)) && decide ((named p.ds x.kw) ≤ (p.ds.length : Int) - 1)) with
          | true =>
            have hin' := hin
            simp only [Bool.and_eq_true, decide_eq_true_eq] at hin'
            obtain ⟨g0, g1⟩ := hin'
            have g2 : (named p.ds x.kw) < (p.ds.length : Int) := by omega
            obtain ⟨v, hv⟩ := get_dec (l := out) g0 (by omega)
            obtain ⟨d, hdd⟩ := get_dec g0 g2
            have HV := hv
            have HD := hdd
            try simp only [Int.toNat_natCast] at HV HD
            (have hA := And.intro e0_1 (And.intro e0_2 (And.intro e0_4 (And.intro e0_5 (And.intro h0_7 (And.intro h0_6 (And.intro e2_1 (And.intro e2_2 (And.intro e2_6 (And.intro h2_8 (And.intro h2_9 (hla))))))))))); have hNE := True.intro; have hC := True.intro; repeat' first
                | ((with_reducible apply te_drwE); (focus (simp only [effFl, List.map_cons, List.map_nil]; exact rfl)); (focus decide +kernel))
                | with_reducible refine k_seq ?_
                | with_reducible refine t_seq ?_
                | with_reducible refine t_reg ?_
                | with_reducible refine t_nil ?_
                | with_reducible refine t_skip ?_
                | with_reducible refine t_ret ?_
                | with_reducible refine k_seq_ret ?_
                | with_reducible refine k_blk_ret ?_
                | with_reducible refine k_blk ?_
                | with_reducible refine k_invE_ret ?_
                | with_reducible refine t_block ?_
                | with_reducible refine m_nil ?_
                | ((with_reducible apply te_val); exact rfl; (intro _ _ _ h; cases h); (focus (simp only [go_sem, hNE, hA, hkw, hlt, hle, hx, hw, HW, hin, g0, g1, g2, HV, HD, encA, encD, encF, encI]; first | done | exact rfl)))
                | ((with_reducible apply te_gval); exact rfl; (focus (simp only [go_sem, hNE, hA, hkw, hlt, hle, hx, hw, HW, hin, g0, g1, g2, HV, HD, encA, encD, encF, encI]; first | done | exact rfl)); exact rfl; (intro _ _ _ h; cases h); (focus (intro hG; simp only [go_sem, hNE, hA, hkw, hlt, hle, hx, hw, HW, hin, g0, g1, g2, HV, HD, encA, encD, encF, encI, hG]; first | done | exact rfl)))
                | ((with_reducible apply me_val); exact rfl; (intro _ _ _ h; cases h); (focus (simp only [go_sem, hNE, hA, hkw, hlt, hle, hx, hw, HW, hin, g0, g1, g2, HV, HD, encA, encD, encF, encI]; first | done | exact rfl)))
                | ((with_reducible apply me_callS); (focus (simp only [go_sem, hNE, hA, hkw, hlt, hle, hx, hw, HW, hin, g0, g1, g2, HV, HD, encA, encD, encF, encI]; first | done | exact rfl)); (focus (simp only [go_sem, hNE, hA, hkw, hlt, hle, hx, hw, HW, hin, g0, g1, g2, HV, HD, encA, encD, encF, encI]; first | done | exact rfl)); (focus (simp only [go_sem, hNE, hA, hkw, hlt, hle, hx, hw, HW, hin, g0, g1, g2, HV, HD, encA, encD, encF, encI]; first | done | exact rfl)); (first | exact p62 p.ds x.kw hd | exact p47b (named p.ds x.kw) _ _ | exact p80 d x.f))
                | ((with_reducible apply me_gval); exact rfl; (focus (simp only [go_sem, hNE, hA, hkw, hlt, hle, hx, hw, HW, hin, g0, g1, g2, HV, HD, encA, encD, encF, encI]; first | done | exact rfl)); exact rfl; (intro _ _ _ h; cases h); (focus (intro hG; simp only [go_sem, hNE, hA, hkw, hlt, hle, hx, hw, HW, hin, g0, g1, g2, HV, HD, encA, encD, encF, encI, hG]; first | done | exact rfl)))
                | ((with_reducible apply me_gcallS); exact rfl; (focus (simp only [go_sem, hNE, hA, hkw, hlt, hle, hx, hw, HW, hin, g0, g1, g2, HV, HD, encA, encD, encF, encI]; first | done | exact rfl)); (focus (simp only [go_sem, hNE, hA, hkw, hlt, hle, hx, hw, HW, hin, g0, g1, g2, HV, HD, encA, encD, encF, encI]; first | done | exact rfl)); (focus (intro hG; simp only [go_sem, hNE, hA, hkw, hlt, hle, hx, hw, HW, hin, g0, g1, g2, HV, HD, encA, encD, encF, encI, hG]; first | done | exact rfl)); (focus (simp only [go_sem, hNE, hA, hkw, hlt, hle, hx, hw, HW, hin, g0, g1, g2, HV, HD, encA, encD, encF, encI]; done)); (intro hG; first | exact p62 p.ds x.kw hd | exact p47b (named p.ds x.kw) _ _ | exact p80 d x.f))
                | ((with_reducible apply te_store); (focus (simp only [go_sem, hNE, hA, hkw, hlt, hle, hx, hw, HW, hin, g0, g1, g2, HV, HD, encA, encD, encF, encI]; first | done | exact rfl)); (focus (simp only [go_sem, hNE, hA, hkw, hlt, hle, hx, hw, HW, hin, g0, g1, g2, HV, HD, encA, encD, encF, encI]; first | done | exact rfl)); (focus (simp only [go_sem, hNE, hA, hkw, hlt, hle, hx, hw, HW, hin, g0, g1, g2, HV, HD, encA, encD, encF, encI]; first | done | exact rfl)); (focus (simp only [go_sem, hNE, hA, hkw, hlt, hle, hx, hw, HW, hin, g0, g1, g2, HV, HD, encA, encD, encF, encI]; first | done | exact rfl)); (focus (simp only [go_sem, hNE, hA, hkw, hlt, hle, hx, hw, HW, hin, g0, g1, g2, HV, HD, encA, encD, encF, encI]; first | done | exact rfl)); (focus (simp only [go_sem, hNE, hA, hkw, hlt, hle, hx, hw, HW, hin, g0, g1, g2, HV, HD, encA, encD, encF, encI]; first | done | exact rfl)))
                | ((with_reducible apply t_cond); (focus (simp only [go_sem, hNE, hA, hkw, hlt, hle, hx, hw, HW, hin, g0, g1, g2, HV, HD, encA, encD, encF, encI]; first | done | exact rfl)))
                | (with_reducible intro hc; with_reducible exact Bool.noConfusion hc)
                | (with_reducible intro hc; have hC := And.intro hC hc))
            all_goals (rw [show mstep p.ds i x out r = mtake i x out r (named p.ds x.kw) v d by simp only [mstep, hat, hlo, hin, hv, hdd]; rfl] at hr)
            all_goals (simp only [mtake, hC, if_true, if_false, Bool.false_eq_true, Option.bind_none, Option.bind_some] at hr)
            · have hm : matchF p c = none := by rw [matchF, ← hr]; rfl
              (first | apply pend rs38 | apply pendN rs38); (focus (simp only [go_sem, e0_1, e0_2, e0_4, e0_5, h0_7, h0_6, e2_1, e2_2, e2_6, h2_8, h2_9, hla, hm, encM]; first | done | exact rfl)); (focus (simp only [go_sem, e0_1, e0_2, e0_4, e0_5, h0_7, h0_6, e2_1, e2_2, e2_6, h2_8, h2_9, hla, hm, encM]; first | done | exact rfl))
            · have hm : matchF p c = none := by rw [matchF, ← hr]; rfl
              (first | apply pend rs38 | apply pendN rs38); (focus (simp only [go_sem, e0_1, e0_2, e0_4, e0_5, h0_7, h0_6, e2_1, e2_2, e2_6, h2_8, h2_9, hla, hm, encM]; first | done | exact rfl)); (focus (simp only [go_sem, e0_1, e0_2, e0_4, e0_5, h0_7, h0_6, e2_1, e2_2, e2_6, h2_8, h2_9, hla, hm, encM]; first | done | exact rfl))
            · refine k_invE (k2 - 1) (by omega) ⟨i + 1, out.set (named p.ds x.kw).toNat (i : Int), x.f.r, (by omega), ?_, ?_, (by simp only [go_sem, e0_1, e0_2, e0_4, e0_5, h0_7, h0_6, e2_1, e2_2, e2_6, h2_8, h2_9, hla, hw, setI, hNE]; first | done | rfl), (by simp only [go_sem, e0_1, e0_2, e0_4, e0_5, h0_7, h0_6, e2_1, e2_2, e2_6, h2_8, h2_9, hla, hw, setI]; first | done | rfl), (by simp only [go_sem, e0_1, e0_2, e0_4, e0_5, h0_7, h0_6, e2_1, e2_2, e2_6, h2_8, h2_9, hla, hw, setI]; first | done | rfl)⟩
              · exact hr
              · rw [List.length_set]; exact hlen
            · refine k_invE (k2 - 1) (by omega) ⟨i + 1, out.set (named p.ds x.kw).toNat (i : Int), r, (by omega), ?_, ?_, (by simp only [go_sem, e0_1, e0_2, e0_4, e0_5, h0_7, h0_6, e2_1, e2_2, e2_6, h2_8, h2_9, hla, hw, setI, hNE]; first | done | rfl), (by simp only [go_sem, e0_1, e0_2, e0_4, e0_5, h0_7, h0_6, e2_1, e2_2, e2_6, h2_8, h2_9, hla, hw, setI]; first | done | rfl), (by simp only [go_sem, e0_1, e0_2, e0_4, e0_5, h0_7, h0_6, e2_1, e2_2, e2_6, h2_8, h2_9, hla, hw, setI]; first | done | rfl)⟩
              · exact hr
              · rw [List.length_set]; exact hlen
          | false =>
            have hn : mstep p.ds i x out r = none := by simp only [mstep, hat, hlo, hin, if_true]
            rw [hn, Option.bind_none] at hr
            have hm : matchF p c = none := by rw [matchF, ← hr]; rfl
            have hin2 := hin
            try simp only [Int.natCast_nonneg, decide_true, Bool.true_and] at hin2
            (have hA := And.intro e0_1 (And.intro e0_2 (And.intro e0_4 (And.intro e0_5 (And.intro h0_7 (And.intro h0_6 (And.intro e2_1 (And.intro e2_2 (And.intro e2_6 (And.intro h2_8 (And.intro h2_9 (hla))))))))))); have hNE := True.intro; have hC := True.intro; repeat' first
                | ((with_reducible apply te_drwE); (focus (simp only [effFl, List.map_cons, List.map_nil]; exact rfl)); (focus decide +kernel))
                | with_reducible refine k_seq ?_
                | with_reducible refine t_seq ?_
                | with_reducible refine t_reg ?_
                | with_reducible refine t_nil ?_
                | with_reducible refine t_skip ?_
                | with_reducible refine t_ret ?_
                | with_reducible refine k_seq_ret ?_
                | with_reducible refine k_blk_ret ?_
                | with_reducible refine k_invE_ret ?_
                | with_reducible refine t_block ?_
                | with_reducible refine m_nil ?_
                | ((with_reducible apply te_val); exact rfl; (intro _ _ _ h; cases h); (focus (simp only [go_sem, hNE, hA, hkw, hlt, hle, hx, hw, HW, hin, hin2, encA, encD, encF, encI]; first | done | exact rfl)))
                | ((with_reducible apply me_val); exact rfl; (intro _ _ _ h; cases h); (focus (simp only [go_sem, hNE, hA, hkw, hlt, hle, hx, hw, HW, hin, hin2, encA, encD, encF, encI]; first | done | exact rfl)))
                | ((with_reducible apply me_callS); (focus (simp only [go_sem, hNE, hA, hkw, hlt, hle, hx, hw, HW, hin, hin2, encA, encD, encF, encI]; first | done | exact rfl)); (focus (simp only [go_sem, hNE, hA, hkw, hlt, hle, hx, hw, HW, hin, hin2, encA, encD, encF, encI]; first | done | exact rfl)); (focus (simp only [go_sem, hNE, hA, hkw, hlt, hle, hx, hw, HW, hin, hin2, encA, encD, encF, encI]; first | done | exact rfl)); (first | exact p62 p.ds x.kw hd | exact p47b (named p.ds x.kw) _ _))
                | ((with_reducible apply me_gval); exact rfl; (focus (simp only [go_sem, hNE, hA, hkw, hlt, hle, hx, hw, HW, hin, hin2, encA, encD, encF, encI]; first | done | exact rfl)); exact rfl; (intro _ _ _ h; cases h); (focus (intro hG; simp only [go_sem, hNE, hA, hkw, hlt, hle, hx, hw, HW, hin, hin2, encA, encD, encF, encI, hG]; first | done | exact rfl)))
                | ((with_reducible apply me_gno); exact rfl; (focus (simp only [go_sem, hNE, hA, hkw, hlt, hle, hx, hw, HW, hin, hin2, encA, encD, encF, encI]; first | done | exact rfl)); exact rfl)
                | ((with_reducible apply t_cond); (focus (simp only [go_sem, hNE, hA, hkw, hlt, hle, hx, hw, HW, hin, hin2, encA, encD, encF, encI]; first | done | exact rfl)))
                | (with_reducible intro hc; with_reducible exact Bool.noConfusion hc)
                | (with_reducible intro hc; have hC := And.intro hC hc))
            (first | apply pend rs38 | apply pendN rs38); (focus (simp only [go_sem, e0_1, e0_2, e0_4, e0_5, h0_7, h0_6, e2_1, e2_2, e2_6, h2_8, h2_9, hla, hm, encM]; first | done | exact rfl)); (focus (simp only [go_sem, e0_1, e0_2, e0_4, e0_5, h0_7, h0_6, e2_1, e2_2, e2_6, h2_8, h2_9, hla, hm, encM]; first | done | exact rfl))
      · have hlt := nlt_int hi
        rw [at_end hi, mloop] at hr
        have hm : matchF p c = if mfin p.ds out = true then some out else none := by rw [matchF, ← hr]; rfl
        (have hA := And.intro e0_1 (And.intro e0_2 (And.intro e0_4 (And.intro e0_5 (And.intro h0_7 (And.intro h0_6 (And.intro e2_1 (And.intro e2_2 (And.intro e2_6 (And.intro h2_8 (And.intro h2_9 (hla))))))))))); have hNE := True.intro; have hC := True.intro; repeat' first
            | with_reducible refine k_seq ?_
            | with_reducible refine t_seq ?_
            | with_reducible refine t_reg ?_
            | with_reducible refine t_nil ?_
            | with_reducible refine t_exit ?_
            | with_reducible refine k_seq_exit ?_
            | with_reducible refine k_blk_exit ?_
            | with_reducible refine k_invE_exit ?_
            | with_reducible refine t_block ?_
            | ((with_reducible apply te_val); exact rfl; (intro _ _ _ h; cases h); (focus (simp only [go_sem, hNE, hA, hlt]; first | done | exact rfl)))
            | ((with_reducible apply t_cond); (focus (simp only [go_sem, hNE, hA, hlt]; first | done | exact rfl)))
            | (with_reducible intro hc; with_reducible exact Bool.noConfusion hc)
            | (with_reducible intro hc; have hC := And.intro hC hc))
        refine t_loopE (fun (k4 : Nat) (E4 : Nat → PV) (H4 : Hp) => ∃ (j : Nat), j + k4 = p.ds.length ∧ mfin (p.ds.drop j) (out.drop j) = mfin p.ds out ∧ H4 la = some (.row true 1 (out.map encI)) ∧ E4 12 = .int .i64 j) (p.ds.length) ⟨0, (by first | omega | rfl | assumption | (simp only [go_sem, e0_1, e0_2, e0_4, e0_5, h0_7, h0_6, e2_1, e2_2, e2_6, h2_8, h2_9, hla, hlt]; first | done | rfl | assumption | omega)), (by first | omega | rfl | assumption | (simp only [go_sem, e0_1, e0_2, e0_4, e0_5, h0_7, h0_6, e2_1, e2_2, e2_6, h2_8, h2_9, hla, hlt]; first | done | rfl | assumption | omega)), (by first | omega | rfl | assumption | (simp only [go_sem, e0_1, e0_2, e0_4, e0_5, h0_7, h0_6, e2_1, e2_2, e2_6, h2_8, h2_9, hla, hlt]; first | done | rfl | assumption | omega)), (by simp only [go_sem, e0_1, e0_2, e0_4, e0_5, h0_7, h0_6, e2_1, e2_2, e2_6, h2_8, h2_9, hla, hlt]; first | done | rfl)⟩ ?_
        rintro k4 E4 H4 hfr4 ⟨j, hk2, hr2, hla2, h4_12⟩
        have e4_2 := hfr4 2 rfl; have e4_6 := hfr4 6 rfl
        simp only [go_sem, e0_1, e0_2, e0_4, e0_5, h0_7, h0_6, e2_1, e2_2, e2_6, h2_8, h2_9, hla, hlt] at e4_2 e4_6
        clear hfr4
        by_cases hj : j < p.ds.length
        · obtain ⟨d, hx, hdr⟩ := at_list hj
          obtain ⟨v, hv, hvr⟩ := at_list (xs := out) (i := j) (by omega)
          have hlt := lt_int hj
          have hw := wrap_next hj hd
          have hle := Int.le_of_lt hlt
          rw [hdr, hvr, mfin] at hr2
          (have hA := And.intro e0_1 (And.intro e0_2 (And.intro e0_4 (And.intro e0_5 (And.intro h0_7 (And.intro h0_6 (And.intro e2_1 (And.intro e2_2 (And.intro e2_6 (And.intro h2_8 (And.intro h2_9 (And.intro hla (And.intro e4_2 (And.intro e4_6 (And.intro h4_12 (hla2))))))))))))))); have hNE := True.intro; have hC := True.intro; repeat' first
              | with_reducible refine k_seq ?_
              | with_reducible refine t_seq ?_
              | with_reducible refine t_reg ?_
              | with_reducible refine t_nil ?_
              | with_reducible refine t_skip ?_
              | with_reducible refine t_ret ?_
              | with_reducible refine k_seq_ret ?_
              | with_reducible refine k_blk_ret ?_
              | with_reducible refine k_blk ?_
              | with_reducible refine k_invE_ret ?_
              | with_reducible refine t_block ?_
              | ((with_reducible apply te_val); exact rfl; (intro _ _ _ h; cases h); (focus (simp only [go_sem, hNE, hA, hlt, hle, hx, hw, hv, encD, encI]; first | done | exact rfl)))
              | ((with_reducible apply te_gval); exact rfl; (focus (simp only [go_sem, hNE, hA, hlt, hle, hx, hw, hv, encD, encI]; first | done | exact rfl)); exact rfl; (intro _ _ _ h; cases h); (focus (intro hG; simp only [go_sem, hNE, hA, hlt, hle, hx, hw, hv, encD, encI, hG]; first | done | exact rfl)))
              | ((with_reducible apply t_cond); (focus (simp only [go_sem, hNE, hA, hlt, hle, hx, hw, hv, encD, encI]; first | done | exact rfl)))
              | (with_reducible intro hc; with_reducible exact Bool.noConfusion hc)
              | (with_reducible intro hc; have hC := And.intro hC hc))
          · have hm2 : matchF p c = none := by rw [hm, ← hr2]; simp only [hC, if_true, Bool.false_eq_true, if_false]
            (first | apply pend rs38 | apply pendN rs38); (focus (simp only [go_sem, e0_1, e0_2, e0_4, e0_5, h0_7, h0_6, e2_1, e2_2, e2_6, h2_8, h2_9, hla, e4_2, e4_6, h4_12, hla2, hm2, encM]; first | done | exact rfl)); (focus (simp only [go_sem, e0_1, e0_2, e0_4, e0_5, h0_7, h0_6, e2_1, e2_2, e2_6, h2_8, h2_9, hla, e4_2, e4_6, h4_12, hla2, hm2, encM]; first | done | exact rfl))
          · refine k_invE (k4 - 1) (by omega) ⟨j + 1, (by omega), ?_, (by simp only [go_sem, e0_1, e0_2, e0_4, e0_5, h0_7, h0_6, e2_1, e2_2, e2_6, h2_8, h2_9, hla, e4_2, e4_6, h4_12, hla2, hw, hNE]; first | done | rfl), (by simp only [go_sem, e0_1, e0_2, e0_4, e0_5, h0_7, h0_6, e2_1, e2_2, e2_6, h2_8, h2_9, hla, e4_2, e4_6, h4_12, hla2, hw]; first | done | rfl)⟩
            simp only [hC, Bool.false_eq_true, if_false] at hr2; exact hr2
        · have hlt := nlt_int hj
          rw [at_end hj] at hr2
          have hm2 : matchF p c = some out := by rw [hm, ← hr2]; simp only [mfin, if_true]
          (have hA := And.intro e0_1 (And.intro e0_2 (And.intro e0_4 (And.intro e0_5 (And.intro h0_7 (And.intro h0_6 (And.intro e2_1 (And.intro e2_2 (And.intro e2_6 (And.intro h2_8 (And.intro h2_9 (And.intro hla (And.intro e4_2 (And.intro e4_6 (And.intro h4_12 (hla2))))))))))))))); have hNE := True.intro; have hC := True.intro; repeat' first
              | with_reducible refine k_seq ?_
              | with_reducible refine t_seq ?_
              | with_reducible refine t_reg ?_
              | with_reducible refine t_nil ?_
              | with_reducible refine t_ret ?_
              | with_reducible refine t_exit ?_
              | with_reducible refine k_seq_exit ?_
              | with_reducible refine k_blk_exit ?_
              | with_reducible refine k_invE_exit ?_
              | ((with_reducible apply te_val); exact rfl; (intro _ _ _ h; cases h); (focus (simp only [go_sem, hNE, hA, hlt]; first | done | exact rfl)))
              | ((with_reducible apply t_cond); (focus (simp only [go_sem, hNE, hA, hlt]; first | done | exact rfl)))
              | (with_reducible intro hc; with_reducible exact Bool.noConfusion hc)
              | (with_reducible intro hc; have hC := And.intro hC hc))
          (first | apply pend rs38 | apply pendN rs38); (focus (simp only [go_sem, e0_1, e0_2, e0_4, e0_5, h0_7, h0_6, e2_1, e2_2, e2_6, h2_8, h2_9, hla, e4_2, e4_6, h4_12, hla2, hm2, encM, hlen, clIs, nmI, nmI6, List.take_of_length_le (Nat.le_of_eq hlen)]; first | done | exact rfl)); (focus (simp only [go_sem, e0_1, e0_2, e0_4, e0_5, h0_7, h0_6, e2_1, e2_2, e2_6, h2_8, h2_9, hla, e4_2, e4_6, h4_12, hla2, hm2, encM, hlen, clIs, nmI, nmI6, List.take_of_length_le (Nat.le_of_eq hlen)]; first | done | exact rfl))
end Go.Proofs.Ytloecggdboingaa
