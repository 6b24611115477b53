/- Chapter 18: the reference: names. -/
import Derived.Test.YtloecggdboingaaCA
import Derived.Test.YtloecggdboingaaFC
import Derived.KernelRfl
namespace Go.Proofs.Ytloecggdboingaa
open Go.RowKit Go.Proofs
set_option linter.unusedVariables false
set_option linter.unusedSimpArgs false
attribute [local irreducible] PPure

theorem or32_all : ∀ i : Fin 256, IntKind.u8.wrap (BitVec.ofInt 8 ((UInt8.ofNat i.val).toNat : Int) ||| BitVec.ofInt 8 32).toNat = (((UInt8.ofNat i.val) ||| 32).toNat : Int) := by decide +kernel
theorem or32 (b : UInt8) : IntKind.u8.wrap (BitVec.ofInt 8 (b.toNat : Int) ||| BitVec.ofInt 8 32).toNat = ((b ||| 32).toNat : Int) := by
  have := or32_all ⟨b.toNat, b.toNat_lt⟩
  simpa using this
theorem u8_i64 (n : Nat) (h : n < 256) : IntKind.i64.wrap (n : Int) = (n : Int) := by rw [IntKind.wrap_i64]; omega
theorem u8_wrap (b : UInt8) : IntKind.i64.wrap (b.toNat : Int) = (b.toNat : Int) := u8_i64 _ b.toNat_lt
def lowB (b : UInt8) : Bool := decide (97 ≤ b) && decide (b ≤ 122)
def ltrB (b : UInt8) : Bool := letterB b || lowB b
theorem ltr_all : ∀ i : Fin 256, (!(decide ((((UInt8.ofNat i.val) ||| 32).toNat : Int) < 97) || decide ((122 : Int) < (((UInt8.ofNat i.val) ||| 32).toNat : Int)))) = ltrB (UInt8.ofNat i.val) := by decide +kernel
theorem ltr_eq (b : UInt8) : (!(decide (((b ||| 32).toNat : Int) < 97) || decide ((122 : Int) < ((b ||| 32).toNat : Int)))) = ltrB b := by
  have := ltr_all ⟨b.toNat, b.toNat_lt⟩
  simpa using this
theorem dig_all : ∀ i : Fin 256, (!(decide (((UInt8.ofNat i.val).toNat : Int) < 48) || decide ((57 : Int) < ((UInt8.ofNat i.val).toNat : Int)))) = digitB (UInt8.ofNat i.val) := by decide +kernel
theorem dig_eq (b : UInt8) : (!(decide ((b.toNat : Int) < 48) || decide ((57 : Int) < (b.toNat : Int)))) = digitB b := by
  have := dig_all ⟨b.toNat, b.toNat_lt⟩
  simpa using this

theorem pvor32 {P : Program} (t : TypeId) (b : UInt8) : pvBin P .or t (.int .u8 (b.toNat : Int)) (.int .u8 32) = some (.int .u8 ((b ||| 32).toNat : Int)) := by
  simp only [pvBin, intBin, if_true]
  exact congrArg (fun n => some (PV.int .u8 n)) (or32 b)
theorem p108 (b : UInt8) : PPure Try.prog 108 [.int .u8 (b.toNat : Int)] (.bool (ltrB b)) := by
  (refine ppure_of_T ok108 (by simp only [List.length_cons, List.length_nil]; decide) ?_; refine t_seq ?_)
  (have hNE := True.intro; have hC := True.intro; repeat' first
    | with_reducible refine k_seq ?_
    | with_reducible refine t_seq ?_
    | with_reducible refine t_reg ?_
    | with_reducible refine t_nil ?_
    | with_reducible refine t_ret ?_
    | ((with_reducible apply t_val); exact rfl; (intro _ _ _ h; cases h); (focus (simp only [go_sem, hNE, pvor32, u8_wrap]; first | done | exact rfl)))
    | ((with_reducible apply t_callS); (focus (simp only [go_sem, hNE, pvor32, u8_wrap]; first | done | exact rfl)); (focus (simp only [go_sem, hNE, pvor32, u8_wrap]; first | done | exact rfl)); (focus (simp only [go_sem, hNE, pvor32, u8_wrap]; first | done | exact rfl)); (first | exact p47 _ _ _)))
  all_goals (apply pend rs108; (focus (simp only [go_sem, ltr_eq, u8_wrap, *]; first | done | exact rfl)); (focus (simp only [go_sem, ltr_eq, u8_wrap, *]; first | done | exact rfl | simp_all)))
theorem p109 (b : UInt8) : PPure Try.prog 109 [.int .u8 (b.toNat : Int)] (.bool (digitB b)) := by
  (refine ppure_of_T ok109 (by simp only [List.length_cons, List.length_nil]; decide) ?_; refine t_seq ?_)
  (have hNE := True.intro; have hC := True.intro; repeat' first
    | with_reducible refine k_seq ?_
    | with_reducible refine t_seq ?_
    | with_reducible refine t_reg ?_
    | with_reducible refine t_nil ?_
    | with_reducible refine t_ret ?_
    | ((with_reducible apply t_val); exact rfl; (intro _ _ _ h; cases h); (focus (simp only [go_sem, hNE, u8_wrap]; first | done | exact rfl)))
    | ((with_reducible apply t_callS); (focus (simp only [go_sem, hNE, u8_wrap]; first | done | exact rfl)); (focus (simp only [go_sem, hNE, u8_wrap]; first | done | exact rfl)); (focus (simp only [go_sem, hNE, u8_wrap]; first | done | exact rfl)); (first | exact p47 _ _ _)))
  all_goals (apply pend rs109; (focus (simp only [go_sem, u8_wrap, dig_eq, *]; first | done | exact rfl)); (focus (simp only [go_sem, u8_wrap, dig_eq, *]; first | done | exact rfl | simp_all)))

def nameRest (l : List UInt8) : Bool := l.all fun b => b == 95 || ltrB b || digitB b
def isNm (l : List UInt8) : Bool := !(l == []) && !decide ((31 : Int) < l.length) && (l.head?.map ltrB).getD false && nameRest l
theorem orN' {a b c : Bool} (h : (!a && !b && !c) = false) : (a || b || c) = true := orN h
theorem p98 (l : List UInt8) : PPure Try.prog 98 [.str l] (.bool (isNm l)) := by
  cases l with
  | nil =>
    (refine ppure_of_T ok98 (by simp only [List.length_cons, List.length_nil]; decide) ?_; refine t_seq ?_)
    (have hNE := True.intro; have hC := True.intro; repeat' first
    | with_reducible refine k_seq ?_
    | with_reducible refine t_seq ?_
    | with_reducible refine t_reg ?_
    | with_reducible refine t_nil ?_
    | with_reducible refine t_ret ?_
    | with_reducible refine k_seq_ret ?_
    | ((with_reducible apply t_val); exact rfl; (intro _ _ _ h; cases h); (focus (simp only [go_sem, hNE]; first | done | exact rfl)))
    | ((with_reducible apply t_gval); exact rfl; (focus (simp only [go_sem, hNE]; first | done | exact rfl)); exact rfl; (intro _ _ _ h; cases h); (focus (intro hG; simp only [go_sem, hNE, hG]; first | done | exact rfl)))
    | ((with_reducible apply t_gno); exact rfl; (focus (simp only [go_sem, hNE]; first | done | exact rfl)); exact rfl)
    | ((with_reducible apply t_cond); (focus (simp only [go_sem, hNE]; first | done | exact rfl)))
    | (with_reducible intro hc; with_reducible exact Bool.noConfusion hc)
    | (with_reducible intro hc; have hC := And.intro hC hc))
    all_goals (apply pend rs98; (focus (simp only [go_sem, *]; first | done | exact rfl)); (focus (simp only [go_sem, *]; first | done | exact rfl | simp_all)))
  | cons b r =>
    generalize hb : b :: r = l
    have hne : (l == []) = false := by rw [← hb]; rfl
    have h0 : l[0]? = some b := by rw [← hb]; rfl
    have h1 : l.head? = some b := by rw [← hb]; rfl
    cases hn : decide ((31 : Int) < l.length) with
    | true =>
      (refine ppure_of_T ok98 (by simp only [List.length_cons, List.length_nil]; decide) ?_; refine t_seq ?_)
      (have hNE := True.intro; have hC := True.intro; repeat' first
    | with_reducible refine k_seq ?_
    | with_reducible refine t_seq ?_
    | with_reducible refine t_reg ?_
    | with_reducible refine t_nil ?_
    | with_reducible refine t_ret ?_
    | with_reducible refine k_seq_ret ?_
    | ((with_reducible apply t_val); exact rfl; (intro _ _ _ h; cases h); (focus (simp only [go_sem, hNE, hne, hn]; first | done | exact rfl)))
    | ((with_reducible apply t_gval); exact rfl; (focus (simp only [go_sem, hNE, hne, hn]; first | done | exact rfl)); exact rfl; (intro _ _ _ h; cases h); (focus (intro hG; simp only [go_sem, hNE, hne, hn, hG]; first | done | exact rfl)))
    | ((with_reducible apply t_gno); exact rfl; (focus (simp only [go_sem, hNE, hne, hn]; first | done | exact rfl)); exact rfl)
    | ((with_reducible apply t_cond); (focus (simp only [go_sem, hNE, hne, hn]; first | done | exact rfl)))
    | (with_reducible intro hc; with_reducible exact Bool.noConfusion hc)
    | (with_reducible intro hc; have hC := And.intro hC hc))
      all_goals (apply pend rs98; (focus (simp only [go_sem, isNm, hne, hn, *]; first | done | exact rfl)); (focus (simp only [go_sem, isNm, hne, hn, *]; first | done | exact rfl | simp_all)))
    | false =>
      have hl : l.length ≤ 1000 := by simp at hn; omega
      (refine ppure_of_T ok98 (by simp only [List.length_cons, List.length_nil]; decide) ?_; refine t_seq ?_)
      (have hNE := True.intro; have hC := True.intro; repeat' first
    | with_reducible refine k_seq ?_
    | with_reducible refine t_seq ?_
    | with_reducible refine t_reg ?_
    | with_reducible refine t_nil ?_
    | with_reducible refine t_skip ?_
    | with_reducible refine t_ret ?_
    | with_reducible refine k_seq_ret ?_
    | with_reducible refine t_block ?_
    | ((with_reducible apply t_val); exact rfl; (intro _ _ _ h; cases h); (focus (simp only [go_sem, hNE, hne, hn, h0]; first | done | exact rfl)))
    | ((with_reducible apply t_gval); exact rfl; (focus (simp only [go_sem, hNE, hne, hn, h0]; first | done | exact rfl)); exact rfl; (intro _ _ _ h; cases h); (focus (intro hG; simp only [go_sem, hNE, hne, hn, h0, hG]; first | done | exact rfl)))
    | ((with_reducible apply t_gcallS); exact rfl; (focus (simp only [go_sem, hNE, hne, hn, h0]; first | done | exact rfl)); (focus (simp only [go_sem, hNE, hne, hn, h0]; first | done | exact rfl)); (focus (intro hG; simp only [go_sem, hNE, hne, hn, h0, hG]; first | done | exact rfl)); (focus (simp only [go_sem, hNE, hne, hn, h0]; done)); (intro hG; first | exact p108 b))
    | ((with_reducible apply t_cond); (focus (simp only [go_sem, hNE, hne, hn, h0]; first | done | exact rfl)))
    | (with_reducible intro hc; have hC := And.intro hC hc))
      · rw [show isNm l = false by simp only [isNm, hne, hn, h1, Option.map_some, Option.getD_some]; simp only [Bool.not_eq_true'] at hc; simp [hc]]
        all_goals (apply pend rs98; (focus (simp only [go_sem, *]; first | done | exact rfl)); (focus (simp only [go_sem, *]; first | done | exact rfl | simp_all)))
      · rw [show isNm l = nameRest l by simp only [isNm, hne, hn, h1, Option.map_some, Option.getD_some]; simp only [Bool.not_eq_false'] at hc; simp [hc]]
        clear hb h0 h1 hne hn hc
        refine t_loop (fun k s => ∃ i : Nat, i + k = l.length ∧ nameRest (l.drop i) = nameRest l ∧ s.env 0 = .str l ∧ s.env 19 = .int .i64 l.length ∧ s.env 20 = .int .i64 i) l.length ?_ ?_
        · exact ⟨0, by omega, rfl, by simp only [go_sem, ne95]; first | done | rfl, by simp only [go_sem, ne95]; first | done | rfl, by simp only [go_sem, ne95]; first | done | rfl⟩
        · rintro k s ⟨i, hk, hr, h0, h19, h20⟩
          by_cases hi : i < l.length
          · obtain ⟨x, hx, hd⟩ := at_list hi
            have hlt := lt_int hi
            have hw := wrap_next hi hl
            have hle := Int.le_of_lt hlt
            rw [hd] at hr
            (have hNE := True.intro; have hC := True.intro; repeat' first
          | with_reducible refine k_seq ?_
          | with_reducible refine t_seq ?_
          | with_reducible refine t_reg ?_
          | with_reducible refine t_nil ?_
          | with_reducible refine t_skip ?_
          | with_reducible refine t_ret ?_
          | with_reducible refine k_seq_ret ?_
          | with_reducible refine k_blk_ret ?_
          | with_reducible refine k_blk ?_
          | with_reducible refine k_inv_ret ?_
          | with_reducible refine t_block ?_
          | ((with_reducible apply t_val); exact rfl; (intro _ _ _ h; cases h); (focus (simp only [go_sem, hNE, ne95, h0, h19, h20, hlt, hle, hx, hw]; first | done | exact rfl)))
          | ((with_reducible apply t_gval); exact rfl; (focus (simp only [go_sem, hNE, ne95, h0, h19, h20, hlt, hle, hx, hw]; first | done | exact rfl)); exact rfl; (intro _ _ _ h; cases h); (focus (intro hG; simp only [go_sem, hNE, ne95, h0, h19, h20, hlt, hle, hx, hw, hG]; first | done | exact rfl)))
          | ((with_reducible apply t_gcallS); exact rfl; (focus (simp only [go_sem, hNE, ne95, h0, h19, h20, hlt, hle, hx, hw]; first | done | exact rfl)); (focus (simp only [go_sem, hNE, ne95, h0, h19, h20, hlt, hle, hx, hw]; first | done | exact rfl)); (focus (intro hG; simp only [go_sem, hNE, ne95, h0, h19, h20, hlt, hle, hx, hw, hG]; first | done | exact rfl)); (focus (simp only [go_sem, hNE, ne95, h0, h19, h20, hlt, hle, hx, hw]; done)); (intro hG; first | exact p108 x | exact p109 x))
          | ((with_reducible apply t_cond); (focus (simp only [go_sem, hNE, ne95, h0, h19, h20, hlt, hle, hx, hw]; first | done | exact rfl)))
          | (with_reducible intro hc; with_reducible exact Bool.noConfusion hc)
          | (with_reducible intro hc; have hC := And.intro hC hc))
            all_goals (first
                | (apply pend rs98; (focus (simp only [go_sem, ne95, h0, h19, h20, hlt, hle, hx, hw]; first | done | exact rfl)); (focus (simp only [go_sem, ne95, h0, h19, h20, hlt, hle, hx, hw]; first | done | (rw [← hr]; simp only [nameRest, List.all_cons]; rw [orT hc, Bool.false_and]) | (rw [← hr]; clear hr; simp_all [nameRest]))))
                | (apply pendN rs98; (focus (simp only [go_sem, ne95, h0, h19, h20, hlt, hle, hx, hw]; first | done | exact rfl)); (focus (simp only [go_sem, ne95, h0, h19, h20, hlt, hle, hx, hw]; first | done | (rw [← hr]; simp only [nameRest, List.all_cons]; rw [orT hc, Bool.false_and]) | (rw [← hr]; clear hr; simp_all [nameRest]))))
                | (refine k_inv (k - 1) (by omega) ⟨i + 1, by omega, (by first | (simp only [nameRest, List.all_cons] at hr ⊢; rw [orN' hc, Bool.true_and] at hr; exact hr) | exact hr | (simpa [nameRest, hc] using hr) | (simp_all [nameRest])), by simp only [go_sem, ne95, h0, h19, h20, hw]; first | done | rfl, by simp only [go_sem, ne95, h0, h19, h20, hw]; first | done | rfl, by simp only [go_sem, ne95, h0, h19, h20, hw]; first | done | rfl⟩))
          · have hlt := nlt_int hi
            rw [at_end hi] at hr
            (have hNE := True.intro; have hC := True.intro; repeat' first
          | with_reducible refine k_seq ?_
          | with_reducible refine t_seq ?_
          | with_reducible refine t_reg ?_
          | with_reducible refine t_nil ?_
          | with_reducible refine t_ret ?_
          | with_reducible refine t_exit ?_
          | with_reducible refine k_seq_exit ?_
          | with_reducible refine k_blk_exit ?_
          | with_reducible refine k_inv_exit ?_
          | ((with_reducible apply t_val); exact rfl; (intro _ _ _ h; cases h); (focus (simp only [go_sem, hNE, ne95, h0, h19, h20, hlt]; first | done | exact rfl)))
          | ((with_reducible apply t_cond); (focus (simp only [go_sem, hNE, ne95, h0, h19, h20, hlt]; first | done | exact rfl)))
          | (with_reducible intro hc; with_reducible exact Bool.noConfusion hc)
          | (with_reducible intro hc; have hC := And.intro hC hc))
            all_goals (first
                | (apply pend rs98; (focus (simp only [go_sem, ne95, h0, h19, h20, hlt]; first | done | exact rfl)); (focus (simp only [go_sem, ne95, h0, h19, h20, hlt]; first | done | (rw [← hr]; simp only [nameRest, List.all_cons]; rw [orT hc, Bool.false_and]) | (rw [← hr]; clear hr; simp_all [nameRest]))))
                | (apply pendN rs98; (focus (simp only [go_sem, ne95, h0, h19, h20, hlt]; first | done | exact rfl)); (focus (simp only [go_sem, ne95, h0, h19, h20, hlt]; first | done | (rw [← hr]; simp only [nameRest, List.all_cons]; rw [orT hc, Bool.false_and]) | (rw [← hr]; clear hr; simp_all [nameRest]))))
                | (refine k_inv (k - 1) (by omega) ⟨i + 1, by omega, (by first | (simp only [nameRest, List.all_cons] at hr ⊢; rw [orN' hc, Bool.true_and] at hr; exact hr) | exact hr | (simpa [nameRest, hc] using hr) | (simp_all [nameRest])), by simp only [go_sem, ne95, h0, h19, h20, hw]; first | done | rfl, by simp only [go_sem, ne95, h0, h19, h20, hw]; first | done | rfl, by simp only [go_sem, ne95, h0, h19, h20, hw]; first | done | rfl⟩))

theorem cap_all : ∀ i : Fin 256, ((UInt8.ofNat i.val == 95 || ltrB (UInt8.ofNat i.val) || digitB (UInt8.ofNat i.val)) && !lowB (UInt8.ofNat i.val)) = (letterB (UInt8.ofNat i.val) || digitB (UInt8.ofNat i.val) || UInt8.ofNat i.val == 95) := by decide +kernel
theorem cap_eq (b : UInt8) : ((b == 95 || ltrB b || digitB b) && !lowB b) = (letterB b || digitB b || b == 95) := by
  have := cap_all ⟨b.toNat, b.toNat_lt⟩
  simpa using this
theorem hd_all : ∀ i : Fin 256, (ltrB (UInt8.ofNat i.val) && !lowB (UInt8.ofNat i.val)) = letterB (UInt8.ofNat i.val) := by decide +kernel
theorem hd_eq (b : UInt8) : (ltrB b && !lowB b) = letterB b := by
  have := hd_all ⟨b.toNat, b.toNat_lt⟩
  simpa using this
def noLow (l : List UInt8) : Bool := l.all fun b => !lowB b
theorem rest_eq (l : List UInt8) : (nameRest l && noLow l) = restOK l := by
  unfold nameRest noLow restOK
  induction l with
  | nil => rfl
  | cons b r ih =>
    simp only [List.all_cons]
    rw [← ih, ← cap_eq]
    generalize (b == 95 || ltrB b || digitB b) = x
    generalize (!lowB b) = y
    cases x <;> cases y <;> simp
theorem isCap_eq (l : List UInt8) : isCap l = (isNm l && noLow l) := by
  cases l with
  | nil => rfl
  | cons b r =>
    have hlen : inB ((b :: r).length : Nat) 1 31 = !decide ((31 : Int) < ((b :: r).length : Nat)) := by
      unfold inB
      have : decide ((1 : Int) ≤ ((b :: r).length : Nat)) = true := by simp; omega
      rw [this, Bool.true_and, ← decide_not, decide_eq_decide]; omega
    unfold isCap isNm
    rw [hlen, ← rest_eq (b :: r)]
    simp only [List.head?_cons, Option.map_some, Option.getD_some]
    rw [← hd_eq b]
    have hn : noLow (b :: r) = (!lowB b && noLow r) := rfl
    rw [hn]
    generalize (!lowB b) = y
    generalize (!decide ((31 : Int) < ((b :: r).length : Nat))) = z
    generalize nameRest (b :: r) = q
    generalize ltrB b = x
    generalize noLow r = u
    cases x <;> cases y <;> cases z <;> cases q <;> cases u <;> rfl
theorem ge97 (b : UInt8) : decide ((97 : Int) ≤ (b.toNat : Int)) = decide (97 ≤ b) := u8_int (n := 97) (by decide)
theorem le122 (b : UInt8) : decide ((b.toNat : Int) ≤ 122) = decide (b ≤ 122) := by rw [decide_eq_decide, UInt8.le_iff_toNat_le]; simp; omega
theorem nm_small {l : List UInt8} (h : isNm l = true) : l.length ≤ 1000 := by
  simp [isNm] at h; omega
theorem p76 (l : List UInt8) : PPure Try.prog 76 [.str l] (.bool (isCap l)) := by
  rw [isCap_eq]
  cases hn : isNm l with
  | false =>
    (refine ppure_of_T ok76 (by simp only [List.length_cons, List.length_nil]; decide) ?_; refine t_seq ?_)
    (have hNE := True.intro; have hC := True.intro; repeat' first
    | with_reducible refine k_seq ?_
    | with_reducible refine t_seq ?_
    | with_reducible refine t_reg ?_
    | with_reducible refine t_nil ?_
    | with_reducible refine t_ret ?_
    | with_reducible refine k_seq_ret ?_
    | ((with_reducible apply t_val); exact rfl; (intro _ _ _ h; cases h); (focus (simp only [go_sem, hNE, hn]; first | done | exact rfl)))
    | ((with_reducible apply t_callS); (focus (simp only [go_sem, hNE, hn]; first | done | exact rfl)); (focus (simp only [go_sem, hNE, hn]; first | done | exact rfl)); (focus (simp only [go_sem, hNE, hn]; first | done | exact rfl)); (first | exact p98 l))
    | ((with_reducible apply t_cond); (focus (simp only [go_sem, hNE, hn]; first | done | exact rfl)))
    | (with_reducible intro hc; with_reducible exact Bool.noConfusion hc)
    | (with_reducible intro hc; have hC := And.intro hC hc))
    all_goals (apply pend rs76; (focus (simp only [go_sem, hn, *]; first | done | exact rfl)); (focus (simp only [go_sem, hn, *]; first | done | exact rfl | simp_all)))
  | true =>
    have hl := nm_small hn
    rw [Bool.true_and]
    (refine ppure_of_T ok76 (by simp only [List.length_cons, List.length_nil]; decide) ?_; refine t_seq ?_)
    (have hNE := True.intro; have hC := True.intro; repeat' first
    | with_reducible refine k_seq ?_
    | with_reducible refine t_seq ?_
    | with_reducible refine t_reg ?_
    | with_reducible refine t_nil ?_
    | with_reducible refine t_skip ?_
    | with_reducible refine t_block ?_
    | ((with_reducible apply t_val); exact rfl; (intro _ _ _ h; cases h); (focus (simp only [go_sem, hNE, hn]; first | done | exact rfl)))
    | ((with_reducible apply t_callS); (focus (simp only [go_sem, hNE, hn]; first | done | exact rfl)); (focus (simp only [go_sem, hNE, hn]; first | done | exact rfl)); (focus (simp only [go_sem, hNE, hn]; first | done | exact rfl)); (first | exact p98 l))
    | ((with_reducible apply t_cond); (focus (simp only [go_sem, hNE, hn]; first | done | exact rfl)))
    | (with_reducible intro hc; with_reducible exact Bool.noConfusion hc)
    | (with_reducible intro hc; have hC := And.intro hC hc))
    clear hn
    refine t_loop (fun k s => ∃ i : Nat, i + k = l.length ∧ noLow (l.drop i) = noLow l ∧ s.env 0 = .str l ∧ s.env 3 = .int .i64 i) l.length ?_ ?_
    · exact ⟨0, by omega, rfl, by simp only [go_sem, ge97, le122]; first | done | rfl, by simp only [go_sem, ge97, le122]; first | done | rfl⟩
    · rintro k s ⟨i, hk, hr, h0, h3⟩
      by_cases hi : i < l.length
      · obtain ⟨x, hx, hd⟩ := at_list hi
        have hlt := lt_int hi
        have hw := wrap_next hi hl
        have hle := Int.le_of_lt hlt
        rw [hd] at hr
        (have hNE := True.intro; have hC := True.intro; repeat' first
      | with_reducible refine k_seq ?_
      | with_reducible refine t_seq ?_
      | with_reducible refine t_reg ?_
      | with_reducible refine t_nil ?_
      | with_reducible refine t_skip ?_
      | with_reducible refine t_ret ?_
      | with_reducible refine k_seq_ret ?_
      | with_reducible refine k_blk_ret ?_
      | with_reducible refine k_blk ?_
      | with_reducible refine k_inv_ret ?_
      | with_reducible refine t_block ?_
      | ((with_reducible apply t_val); exact rfl; (intro _ _ _ h; cases h); (focus (simp only [go_sem, hNE, ge97, le122, h0, h3, hlt, hle, hx, hw]; first | done | exact rfl)))
      | ((with_reducible apply t_gval); exact rfl; (focus (simp only [go_sem, hNE, ge97, le122, h0, h3, hlt, hle, hx, hw]; first | done | exact rfl)); exact rfl; (intro _ _ _ h; cases h); (focus (intro hG; simp only [go_sem, hNE, ge97, le122, h0, h3, hlt, hle, hx, hw, hG]; first | done | exact rfl)))
      | ((with_reducible apply t_cond); (focus (simp only [go_sem, hNE, ge97, le122, h0, h3, hlt, hle, hx, hw]; first | done | exact rfl)))
      | (with_reducible intro hc; with_reducible exact Bool.noConfusion hc)
      | (with_reducible intro hc; have hC := And.intro hC hc))
        all_goals (first
            | (apply pend rs76; (focus (simp only [go_sem, ge97, le122, h0, h3, hlt, hle, hx, hw]; first | done | exact rfl)); (focus (simp only [go_sem, ge97, le122, h0, h3, hlt, hle, hx, hw]; first | done | (rw [← hr]; simp only [noLow, List.all_cons, lowB]; rw [hc]; rfl) | (rw [← hr]; clear hr; simp_all [noLow]))))
            | (apply pendN rs76; (focus (simp only [go_sem, ge97, le122, h0, h3, hlt, hle, hx, hw]; first | done | exact rfl)); (focus (simp only [go_sem, ge97, le122, h0, h3, hlt, hle, hx, hw]; first | done | (rw [← hr]; simp only [noLow, List.all_cons, lowB]; rw [hc]; rfl) | (rw [← hr]; clear hr; simp_all [noLow]))))
            | (refine k_inv (k - 1) (by omega) ⟨i + 1, by omega, (by first | (simp only [noLow, List.all_cons, lowB] at hr ⊢; rw [hc, Bool.not_false, Bool.true_and] at hr; exact hr) | exact hr | (simpa [noLow, hc] using hr) | (simp_all [noLow])), by simp only [go_sem, ge97, le122, h0, h3, hw]; first | done | rfl, by simp only [go_sem, ge97, le122, h0, h3, hw]; first | done | rfl⟩))
      · have hlt := nlt_int hi
        rw [at_end hi] at hr
        (have hNE := True.intro; have hC := True.intro; repeat' first
      | with_reducible refine k_seq ?_
      | with_reducible refine t_seq ?_
      | with_reducible refine t_reg ?_
      | with_reducible refine t_nil ?_
      | with_reducible refine t_ret ?_
      | with_reducible refine t_exit ?_
      | with_reducible refine k_seq_exit ?_
      | with_reducible refine k_blk_exit ?_
      | with_reducible refine k_inv_exit ?_
      | ((with_reducible apply t_val); exact rfl; (intro _ _ _ h; cases h); (focus (simp only [go_sem, hNE, ge97, le122, h0, h3, hlt]; first | done | exact rfl)))
      | ((with_reducible apply t_cond); (focus (simp only [go_sem, hNE, ge97, le122, h0, h3, hlt]; first | done | exact rfl)))
      | (with_reducible intro hc; with_reducible exact Bool.noConfusion hc)
      | (with_reducible intro hc; have hC := And.intro hC hc))
        all_goals (first
            | (apply pend rs76; (focus (simp only [go_sem, ge97, le122, h0, h3, hlt]; first | done | exact rfl)); (focus (simp only [go_sem, ge97, le122, h0, h3, hlt]; first | done | (rw [← hr]; simp only [noLow, List.all_cons, lowB]; rw [hc]; rfl) | (rw [← hr]; clear hr; simp_all [noLow]))))
            | (apply pendN rs76; (focus (simp only [go_sem, ge97, le122, h0, h3, hlt]; first | done | exact rfl)); (focus (simp only [go_sem, ge97, le122, h0, h3, hlt]; first | done | (rw [← hr]; simp only [noLow, List.all_cons, lowB]; rw [hc]; rfl) | (rw [← hr]; clear hr; simp_all [noLow]))))
            | (refine k_inv (k - 1) (by omega) ⟨i + 1, by omega, (by first | (simp only [noLow, List.all_cons, lowB] at hr ⊢; rw [hc, Bool.not_false, Bool.true_and] at hr; exact hr) | exact hr | (simpa [noLow, hc] using hr) | (simp_all [noLow])), by simp only [go_sem, ge97, le122, h0, h3, hw]; first | done | rfl, by simp only [go_sem, ge97, le122, h0, h3, hw]; first | done | rfl⟩))
theorem p62 (ds : List Dum) (nm : List UInt8) (hl : ds.length ≤ 1000) : PPure Try.prog 62 [.list .any (ds.map encD), .str nm] (.int .i64 (named ds nm)) := by
  unfold named
  (refine ppure_of_T ok62 (by simp only [List.length_cons, List.length_nil]; decide) ?_; refine t_seq ?_)
  (have hNE := True.intro; have hC := True.intro; repeat' first
    | with_reducible refine k_seq ?_
    | with_reducible refine t_seq ?_
    | with_reducible refine t_reg ?_
    | with_reducible refine t_nil ?_
    | with_reducible refine t_block ?_
    | ((with_reducible apply t_val); exact rfl; (intro _ _ _ h; cases h); (focus (simp only [go_sem, hNE]; first | done | exact rfl))))
  refine t_loop (fun k s => ∃ i : Nat, i + k = ds.length ∧ idx (fun d : Dum => d.name == nm) (ds.drop i) i = idx (fun d : Dum => d.name == nm) ds 0 ∧ s.env 0 = .list .any (ds.map encD) ∧ s.env 1 = .str nm ∧ s.env 5 = .int .i64 i) ds.length ?_ ?_
  · exact ⟨0, by omega, rfl, by simp only [go_sem, encD]; first | done | rfl, by simp only [go_sem, encD]; first | done | rfl, by simp only [go_sem, encD]; first | done | rfl⟩
  · rintro k s ⟨i, hk, hr, h0, h1, h5⟩
    by_cases hi : i < ds.length
    · obtain ⟨x, hx, hd⟩ := at_list hi
      have hlt := lt_int hi
      have hw := wrap_next hi hl
      have hle := Int.le_of_lt hlt
      rw [hd] at hr
      (have hNE := True.intro; have hC := True.intro; repeat' first
    | with_reducible refine k_seq ?_
    | with_reducible refine t_seq ?_
    | with_reducible refine t_reg ?_
    | with_reducible refine t_nil ?_
    | with_reducible refine t_skip ?_
    | with_reducible refine t_ret ?_
    | with_reducible refine k_seq_ret ?_
    | with_reducible refine k_blk_ret ?_
    | with_reducible refine k_blk ?_
    | with_reducible refine k_inv_ret ?_
    | with_reducible refine t_block ?_
    | ((with_reducible apply t_val); exact rfl; (intro _ _ _ h; cases h); (focus (simp only [go_sem, hNE, encD, h0, h1, h5, hlt, hle, hx, hw]; first | done | exact rfl)))
    | ((with_reducible apply t_cond); (focus (simp only [go_sem, hNE, encD, h0, h1, h5, hlt, hle, hx, hw]; first | done | exact rfl)))
    | (with_reducible intro hc; with_reducible exact Bool.noConfusion hc)
    | (with_reducible intro hc; have hC := And.intro hC hc))
      all_goals (first
          | (apply pend rs62; (focus (simp only [go_sem, encD, h0, h1, h5, hlt, hle, hx, hw]; first | done | exact rfl)); (focus (simp only [go_sem, encD, h0, h1, h5, hlt, hle, hx, hw]; first | done | (rw [← hr]; clear hr; simp_all [idx]))))
          | (apply pendN rs62; (focus (simp only [go_sem, encD, h0, h1, h5, hlt, hle, hx, hw]; first | done | exact rfl)); (focus (simp only [go_sem, encD, h0, h1, h5, hlt, hle, hx, hw]; first | done | (rw [← hr]; clear hr; simp_all [idx]))))
          | (refine k_inv (k - 1) (by omega) ⟨i + 1, by omega, (by first | exact hr | (simpa [idx, hc] using hr) | (simp_all [idx])), by simp only [go_sem, encD, h0, h1, h5, hw]; first | done | rfl, by simp only [go_sem, encD, h0, h1, h5, hw]; first | done | rfl, by simp only [go_sem, encD, h0, h1, h5, hw]; first | done | rfl⟩))
    · have hlt := nlt_int hi
      rw [at_end hi] at hr
      (have hNE := True.intro; have hC := True.intro; repeat' first
    | with_reducible refine k_seq ?_
    | with_reducible refine t_seq ?_
    | with_reducible refine t_reg ?_
    | with_reducible refine t_nil ?_
    | with_reducible refine t_ret ?_
    | with_reducible refine t_exit ?_
    | with_reducible refine k_seq_exit ?_
    | with_reducible refine k_blk_exit ?_
    | with_reducible refine k_inv_exit ?_
    | ((with_reducible apply t_val); exact rfl; (intro _ _ _ h; cases h); (focus (simp only [go_sem, hNE, encD, h0, h1, h5, hlt]; first | done | exact rfl)))
    | ((with_reducible apply t_cond); (focus (simp only [go_sem, hNE, encD, h0, h1, h5, hlt]; first | done | exact rfl)))
    | (with_reducible intro hc; with_reducible exact Bool.noConfusion hc)
    | (with_reducible intro hc; have hC := And.intro hC hc))
      all_goals (first
          | (apply pend rs62; (focus (simp only [go_sem, encD, h0, h1, h5, hlt]; first | done | exact rfl)); (focus (simp only [go_sem, encD, h0, h1, h5, hlt]; first | done | (rw [← hr]; clear hr; simp_all [idx]))))
          | (apply pendN rs62; (focus (simp only [go_sem, encD, h0, h1, h5, hlt]; first | done | exact rfl)); (focus (simp only [go_sem, encD, h0, h1, h5, hlt]; first | done | (rw [← hr]; clear hr; simp_all [idx]))))
          | (refine k_inv (k - 1) (by omega) ⟨i + 1, by omega, (by first | exact hr | (simpa [idx, hc] using hr) | (simp_all [idx])), by simp only [go_sem, encD, h0, h1, h5, hw]; first | done | rfl, by simp only [go_sem, encD, h0, h1, h5, hw]; first | done | rfl, by simp only [go_sem, encD, h0, h1, h5, hw]; first | done | rfl⟩))
end Go.Proofs.Ytloecggdboingaa
namespace Go.Proofs.Ytloecggdboingaa
open Go.RowKit Go.Proofs
set_option linter.unusedVariables false
set_option linter.unusedSimpArgs false
attribute [local irreducible] PPure

theorem feat_eq (f : Feat) : (if (decide (f.t < 0) || decide (6 < f.t) || (decide (f.k < 0) || decide (8 < f.k)) || (decide (f.r < 0) || decide (7 < f.r))) = true then (2 : Int) else 0) = featErr f := by
  unfold featErr inB
  have h : ∀ a lo hi : Int, (decide (lo ≤ a) && decide (a ≤ hi)) = !(decide (a < lo) || decide (hi < a)) := by
    intro a lo hi
    rw [Bool.not_or, ← decide_not, ← decide_not]
    congr 1 <;> rw [decide_eq_decide] <;> omega
  rw [h, h, h]
  generalize (decide (f.t < 0) || decide (6 < f.t)) = a
  generalize (decide (f.k < 0) || decide (8 < f.k)) = b
  generalize (decide (f.r < 0) || decide (7 < f.r)) = c
  cases a <;> cases b <;> cases c <;> rfl
theorem p75f (f : Feat) : PPure Try.prog 75 [encF f] (.int .i64 (featErr f)) := by
  rw [← feat_eq]; exact p75 f.t f.k f.r
theorem p34 (d : Dum) : PPure Try.prog 34 [encD d] (.int .i64 (dumErr d)) := by
  simp only [encD]
  (refine ppure_of_T ok34 (by simp only [List.length_cons, List.length_nil]; decide) ?_; refine t_seq ?_)
  (have hNE := True.intro; have hC := True.intro; repeat' first
    | with_reducible refine k_seq ?_
    | with_reducible refine t_seq ?_
    | with_reducible refine t_reg ?_
    | with_reducible refine t_nil ?_
    | with_reducible refine t_skip ?_
    | with_reducible refine t_ret ?_
    | with_reducible refine k_seq_ret ?_
    | ((with_reducible apply t_val); exact rfl; (intro _ _ _ h; cases h); (focus (simp only [go_sem, hNE]; first | done | exact rfl)))
    | ((with_reducible apply t_callS); (focus (simp only [go_sem, hNE]; first | done | exact rfl)); (focus (simp only [go_sem, hNE]; first | done | exact rfl)); (focus (simp only [go_sem, hNE]; first | done | exact rfl)); (first | exact p76 _ | exact p75f d.f))
    | ((with_reducible apply t_gval); exact rfl; (focus (simp only [go_sem, hNE]; first | done | exact rfl)); exact rfl; (intro _ _ _ h; cases h); (focus (intro hG; simp only [go_sem, hNE, hG]; first | done | exact rfl)))
    | ((with_reducible apply t_box); (focus (simp only [go_sem, hNE]; first | done | exact rfl)); exact rfl; (focus (simp only [go_sem, hNE]; first | done | exact rfl)))
    | ((with_reducible apply t_cond); (focus (simp only [go_sem, hNE]; first | done | exact rfl)))
    | (with_reducible intro hc; have hC := And.intro hC hc))
  all_goals (apply pend rs34; (focus (simp only [go_sem, dumErr, orE, broken, *]; first | done | exact rfl)); (focus (simp only [go_sem, dumErr, orE, broken, *]; first | done | exact rfl | simp_all)))
theorem p79 (a b : Dum) : PPure Try.prog 79 [encD a, encD b] (.bool (kindB a.f b.f)) := by
  simp only [encD]
  (refine ppure_of_T ok79 (by simp only [List.length_cons, List.length_nil]; decide) ?_; refine t_seq ?_)
  (have hNE := True.intro; have hC := True.intro; repeat' first
    | with_reducible refine k_seq ?_
    | with_reducible refine t_seq ?_
    | with_reducible refine t_reg ?_
    | with_reducible refine t_nil ?_
    | with_reducible refine t_ret ?_
    | ((with_reducible apply t_val); exact rfl; (intro _ _ _ h; cases h); (focus (simp only [go_sem, hNE]; first | done | exact rfl)))
    | ((with_reducible apply t_gval); exact rfl; (focus (simp only [go_sem, hNE]; first | done | exact rfl)); exact rfl; (intro _ _ _ h; cases h); (focus (intro hG; simp only [go_sem, hNE, hG]; first | done | exact rfl)))
    | ((with_reducible apply t_box); (focus (simp only [go_sem, hNE]; first | done | exact rfl)); exact rfl; (focus (simp only [go_sem, hNE]; first | done | exact rfl))))
  all_goals (apply pend rs79; (focus (simp only [go_sem, kindB, *]; first | done | exact rfl)); (focus (simp only [go_sem, kindB, *]; first | done | exact rfl | simp_all)))
theorem p80 (a : Dum) (f : Feat) : PPure Try.prog 80 [encD a, encF f] (.bool (accB a f)) := by
  simp only [encD, encF]
  (refine ppure_of_T ok80 (by simp only [List.length_cons, List.length_nil]; decide) ?_; refine t_seq ?_)
  (have hNE := True.intro; have hC := True.intro; repeat' first
    | with_reducible refine k_seq ?_
    | with_reducible refine t_seq ?_
    | with_reducible refine t_reg ?_
    | with_reducible refine t_nil ?_
    | with_reducible refine t_ret ?_
    | ((with_reducible apply t_val); exact rfl; (intro _ _ _ h; cases h); (focus (simp only [go_sem, hNE]; first | done | exact rfl)))
    | ((with_reducible apply t_gval); exact rfl; (focus (simp only [go_sem, hNE]; first | done | exact rfl)); exact rfl; (intro _ _ _ h; cases h); (focus (intro hG; simp only [go_sem, hNE, hG]; first | done | exact rfl)))
    | ((with_reducible apply t_gval2); exact rfl; (focus (simp only [go_sem, hNE]; first | done | exact rfl)); exact rfl; (intro _ _ _ h; cases h); (focus (intro hG hG2; simp only [go_sem, hNE, hG, hG2]; first | done | exact rfl)))
    | ((with_reducible apply t_box); (focus (simp only [go_sem, hNE]; first | done | exact rfl)); exact rfl; (focus (simp only [go_sem, hNE]; first | done | exact rfl))))
  all_goals (apply pend rs80; (focus (simp only [go_sem, accB, kindB, *]; first | done | exact rfl)); (focus (simp only [go_sem, accB, kindB, *]; first | done | exact rfl | simp_all)))
theorem p35 (a b : Dum) : PPure Try.prog 35 [encD a, encD b] (.bool (compB a b)) := by
  simp only [encD]
  (refine ppure_of_T ok35 (by simp only [List.length_cons, List.length_nil]; decide) ?_; refine t_seq ?_)
  (have hNE := True.intro; have hC := True.intro; repeat' first
    | with_reducible refine k_seq ?_
    | with_reducible refine t_seq ?_
    | with_reducible refine t_reg ?_
    | with_reducible refine t_nil ?_
    | with_reducible refine t_ret ?_
    | ((with_reducible apply t_val); exact rfl; (intro _ _ _ h; cases h); (focus (simp only [go_sem, hNE]; first | done | exact rfl)))
    | ((with_reducible apply t_callS); (focus (simp only [go_sem, hNE]; first | done | exact rfl)); (focus (simp only [go_sem, hNE]; first | done | exact rfl)); (focus (simp only [go_sem, hNE]; first | done | exact rfl)); (first | exact p79 a b))
    | ((with_reducible apply t_gval); exact rfl; (focus (simp only [go_sem, hNE]; first | done | exact rfl)); exact rfl; (intro _ _ _ h; cases h); (focus (intro hG; simp only [go_sem, hNE, hG]; first | done | exact rfl)))
    | ((with_reducible apply t_gval2); exact rfl; (focus (simp only [go_sem, hNE]; first | done | exact rfl)); exact rfl; (intro _ _ _ h; cases h); (focus (intro hG hG2; simp only [go_sem, hNE, hG, hG2]; first | done | exact rfl)))
    | ((with_reducible apply t_box); (focus (simp only [go_sem, hNE]; first | done | exact rfl)); exact rfl; (focus (simp only [go_sem, hNE]; first | done | exact rfl))))
  all_goals (apply pend rs35; (focus (simp only [go_sem, compB, *]; first | done | exact rfl)); (focus (simp only [go_sem, compB, *]; first | done | exact rfl | simp_all)))
theorem p37 (p : Prc) (hl : p.ds.length ≤ 1000) : PPure Try.prog 37 [encP p] (.int .i64 (prcErr p)) := by
  simp only [encP]
  (refine ppure_of_T ok37 (by simp only [List.length_cons, List.length_nil]; decide) ?_; refine t_seq ?_)
  (have hNE := True.intro; have hC := True.intro; repeat' first
    | with_reducible refine k_seq ?_
    | with_reducible refine t_seq ?_
    | with_reducible refine t_reg ?_
    | with_reducible refine t_nil ?_
    | with_reducible refine t_skip ?_
    | with_reducible refine t_ret ?_
    | with_reducible refine k_seq_ret ?_
    | with_reducible refine t_block ?_
    | ((with_reducible apply t_val); exact rfl; (intro _ _ _ h; cases h); (focus (simp only [go_sem, hNE]; first | done | exact rfl)))
    | ((with_reducible apply t_callS); (focus (simp only [go_sem, hNE]; first | done | exact rfl)); (focus (simp only [go_sem, hNE]; first | done | exact rfl)); (focus (simp only [go_sem, hNE]; first | done | exact rfl)); (first | exact p76 _))
    | ((with_reducible apply t_box); (focus (simp only [go_sem, hNE]; first | done | exact rfl)); exact rfl; (focus (simp only [go_sem, hNE]; first | done | exact rfl)))
    | ((with_reducible apply t_cond); (focus (simp only [go_sem, hNE]; first | done | exact rfl)))
    | (with_reducible intro hc; have hC := And.intro hC hc))
  · all_goals (apply pend rs37; (focus (simp only [go_sem, prcErr, broken, *]; first | done | exact rfl)); (focus (simp only [go_sem, prcErr, broken, *]; first | done | exact rfl | simp_all)))
  · all_goals (apply pend rs37; (focus (simp only [go_sem, prcErr, broken, *]; first | done | exact rfl)); (focus (simp only [go_sem, prcErr, broken, *]; first | done | exact rfl | simp_all)))
  · rw [show prcErr p = (firstBad (dumBad p) p.ds 0).2 by simp_all [prcErr, broken]]
    refine t_loop (fun k s => ∃ i : Nat, i + k = p.ds.length ∧ (firstBad (dumBad p) (p.ds.drop i) i).2 = (firstBad (dumBad p) p.ds 0).2 ∧ s.env 1 = .cptr [.str p.name, .list .any (p.ds.map encD)] ∧ s.env 3 = .int .i64 i) p.ds.length ?_ ?_
    · exact ⟨0, by omega, rfl, by simp only [go_sem, encD]; first | done | rfl, by simp only [go_sem, encD]; first | done | rfl⟩
    · rintro k s ⟨i, hk, hr, h1, h3⟩
      by_cases hi : i < p.ds.length
      · obtain ⟨x, hx, hd⟩ := at_list hi
        have hlt := lt_int hi
        have hw := wrap_next hi hl
        have hle := Int.le_of_lt hlt
        rw [hd] at hr
        (have hNE := True.intro; have hC := True.intro; repeat' first
      | with_reducible refine k_seq ?_
      | with_reducible refine t_seq ?_
      | with_reducible refine t_reg ?_
      | with_reducible refine t_nil ?_
      | with_reducible refine t_skip ?_
      | with_reducible refine t_ret ?_
      | with_reducible refine k_seq_ret ?_
      | with_reducible refine k_blk_ret ?_
      | with_reducible refine k_blk ?_
      | with_reducible refine k_inv_ret ?_
      | with_reducible refine t_block ?_
      | with_reducible refine t_drwE (by decide +kernel) ?_
      | with_reducible refine m_nil ?_
      | ((with_reducible apply t_val); exact rfl; (intro _ _ _ h; cases h); (focus (simp only [go_sem, hNE, encD, h1, h3, hlt, hle, hx, hw]; first | done | exact rfl)))
      | ((with_reducible apply t_callS); (focus (simp only [go_sem, hNE, encD, h1, h3, hlt, hle, hx, hw]; first | done | exact rfl)); (focus (simp only [go_sem, hNE, encD, h1, h3, hlt, hle, hx, hw]; first | done | exact rfl)); (focus (simp only [go_sem, hNE, encD, h1, h3, hlt, hle, hx, hw]; first | done | exact rfl)); (first | exact p34 x | exact p62 (p.ds.take i) x.name (take_small hl)))
      | ((with_reducible apply m_val); exact rfl; exact rfl; (intro _ _ _ h; cases h); (focus (simp only [go_sem, hNE, encD, h1, h3, hlt, hle, hx, hw]; first | done | exact rfl)))
      | ((with_reducible apply m_callS); exact rfl; (focus (simp only [go_sem, hNE, encD, h1, h3, hlt, hle, hx, hw]; first | done | exact rfl)); (focus (simp only [go_sem, hNE, encD, h1, h3, hlt, hle, hx, hw]; first | done | exact rfl)); (focus (simp only [go_sem, hNE, encD, h1, h3, hlt, hle, hx, hw]; first | done | exact rfl)); (first | exact p34 x | exact p62 (p.ds.take i) x.name (take_small hl)))
      | ((with_reducible apply t_cond); (focus (simp only [go_sem, hNE, encD, h1, h3, hlt, hle, hx, hw]; first | done | exact rfl)))
      | (with_reducible intro hc; with_reducible exact Bool.noConfusion hc)
      | (with_reducible intro hc; have hC := And.intro hC hc))
        all_goals (first
            | (apply pend rs37; (focus (simp only [go_sem, encD, h1, h3, hlt, hle, hx, hw]; first | done | exact rfl)); (focus (simp only [go_sem, encD, h1, h3, hlt, hle, hx, hw]; first | done | (rw [← hr]; clear hr; simp_all [firstBad, dumBad, orE, broken]))))
            | (apply pendN rs37; (focus (simp only [go_sem, encD, h1, h3, hlt, hle, hx, hw]; first | done | exact rfl)); (focus (simp only [go_sem, encD, h1, h3, hlt, hle, hx, hw]; first | done | (rw [← hr]; clear hr; simp_all [firstBad, dumBad, orE, broken]))))
            | (refine k_inv (k - 1) (by omega) ⟨i + 1, by omega, (by first | exact hr | (simpa [firstBad, dumBad, orE, broken, hc] using hr) | (simp_all [firstBad, dumBad, orE, broken])), by simp only [go_sem, encD, h1, h3, hw]; first | done | rfl, by simp only [go_sem, encD, h1, h3, hw]; first | done | rfl⟩))
      · have hlt := nlt_int hi
        rw [at_end hi] at hr
        (have hNE := True.intro; have hC := True.intro; repeat' first
      | with_reducible refine k_seq ?_
      | with_reducible refine t_seq ?_
      | with_reducible refine t_reg ?_
      | with_reducible refine t_nil ?_
      | with_reducible refine t_ret ?_
      | with_reducible refine t_exit ?_
      | with_reducible refine k_seq_exit ?_
      | with_reducible refine k_blk_exit ?_
      | with_reducible refine k_inv_exit ?_
      | ((with_reducible apply t_val); exact rfl; (intro _ _ _ h; cases h); (focus (simp only [go_sem, hNE, encD, h1, h3, hlt]; first | done | exact rfl)))
      | ((with_reducible apply t_cond); (focus (simp only [go_sem, hNE, encD, h1, h3, hlt]; first | done | exact rfl)))
      | (with_reducible intro hc; with_reducible exact Bool.noConfusion hc)
      | (with_reducible intro hc; have hC := And.intro hC hc))
        all_goals (first
            | (apply pend rs37; (focus (simp only [go_sem, encD, h1, h3, hlt]; first | done | exact rfl)); (focus (simp only [go_sem, encD, h1, h3, hlt]; first | done | (rw [← hr]; clear hr; simp_all [firstBad, dumBad, orE, broken]))))
            | (apply pendN rs37; (focus (simp only [go_sem, encD, h1, h3, hlt]; first | done | exact rfl)); (focus (simp only [go_sem, encD, h1, h3, hlt]; first | done | (rw [← hr]; clear hr; simp_all [firstBad, dumBad, orE, broken]))))
            | (refine k_inv (k - 1) (by omega) ⟨i + 1, by omega, (by first | exact hr | (simpa [firstBad, dumBad, orE, broken, hc] using hr) | (simp_all [firstBad, dumBad, orE, broken])), by simp only [go_sem, encD, h1, h3, hw]; first | done | rfl, by simp only [go_sem, encD, h1, h3, hw]; first | done | rfl⟩))
theorem p26 (a b : Prc) (ha : a.ds.length ≤ 1000) (hb : b.ds.length ≤ 1000) : PPure Try.prog 26 [encP a, encP b] (.int .i64 (bothErr a b)) := by
  simp only [encP]
  (refine ppure_of_T ok26 (by simp only [List.length_cons, List.length_nil]; decide) ?_; refine t_seq ?_)
  (have hNE := True.intro; have hC := True.intro; repeat' first
    | with_reducible refine k_seq ?_
    | with_reducible refine t_seq ?_
    | with_reducible refine t_reg ?_
    | with_reducible refine t_nil ?_
    | with_reducible refine t_skip ?_
    | with_reducible refine t_ret ?_
    | with_reducible refine k_seq_ret ?_
    | ((with_reducible apply t_val); exact rfl; (intro _ _ _ h; cases h); (focus (simp only [go_sem, hNE]; first | done | exact rfl)))
    | ((with_reducible apply t_callS); (focus (simp only [go_sem, hNE]; first | done | exact rfl)); (focus (simp only [go_sem, hNE]; first | done | exact rfl)); (focus (simp only [go_sem, hNE]; first | done | exact rfl)); (first | exact p37 a ha | exact p37 b hb))
    | ((with_reducible apply t_box); (focus (simp only [go_sem, hNE]; first | done | exact rfl)); exact rfl; (focus (simp only [go_sem, hNE]; first | done | exact rfl)))
    | ((with_reducible apply t_cond); (focus (simp only [go_sem, hNE]; first | done | exact rfl)))
    | (with_reducible intro hc; have hC := And.intro hC hc))
  all_goals (apply pend rs26; (focus (simp only [go_sem, bothErr, orE, *]; first | done | exact rfl)); (focus (simp only [go_sem, bothErr, orE, *]; first | done | exact rfl | simp_all)))
end Go.Proofs.Ytloecggdboingaa
namespace Go.Proofs.Ytloecggdboingaa
open Go.RowKit Go.Proofs
set_option linter.unusedVariables false
set_option linter.unusedSimpArgs false
attribute [local irreducible] PPure

theorem app_40 : appB Try.prog 40 40 60 = true := by kernel_rfl
theorem app_23 : appB Try.prog 23 23 89 = true := by kernel_rfl
theorem app_22 : appB Try.prog 22 22 42 = true := by kernel_rfl
theorem app_27 : appB Try.prog 27 27 3 = true := by kernel_rfl
theorem clD' (x : Dum) : ((encD x).cells.length == 6 && (encD x).cells.all PV.isCell) = true := rfl
theorem ccD (xs : List Dum) : cellsB 6 (xs.map encD) = true := cells_map (fun _ => rfl) xs
theorem ccA (xs : List Act) : cellsB 4 (xs.map encA) = true := cells_map (e := encA) (fun _ => rfl) xs
theorem ccP (xs : List Prc) : cellsB 2 (xs.map encP) = true := cells_map (e := encP) (fun _ => rfl) xs
theorem ccI (xs : List Int) : cellsB 1 (xs.map encI) = true := cells_map (e := encI) (fun _ => rfl) xs
theorem wb0 (n : Nat) : widthB n [] = true := rfl
theorem nm_of {α : Type} {e : α → PV} (he : ∀ xs : List α, xs.all (closedB false ∘ e) = true) (H : Hp) (n : Nat) (xs : List α) : (xs.map e).mapM (norm false H (n + 1)) = some (xs.map e) := norm_ok (by rw [List.all_map]; exact he xs)
theorem nmD (H : Hp) (xs : List Dum) : (xs.map encD).mapM (norm false H 7) = some (xs.map encD) := nm_of clDs H 6 xs
theorem nmD6 (H : Hp) (xs : List Dum) : (xs.map encD).mapM (norm false H 6) = some (xs.map encD) := nm_of clDs H 5 xs
theorem nmA (H : Hp) (xs : List Act) : (xs.map encA).mapM (norm false H 7) = some (xs.map encA) := nm_of clAs H 6 xs
theorem nmP (H : Hp) (xs : List Prc) : (xs.map encP).mapM (norm false H 7) = some (xs.map encP) := nm_of clPs H 6 xs
theorem nmI (H : Hp) (xs : List Int) : (xs.map encI).mapM (norm false H 7) = some (xs.map encI) := nm_of clIs H 6 xs
attribute [go_sem] ccD ccA ccP ccI wb0 nmD nmD6 nmA nmP nmI

theorem p17 (c : List Act) (hl : c.length ≤ 1000) : PPure Try.prog 17 [.list .any (c.map encA)] (.list .any (c.map encA)) := by
  (refine ppure_of_T ok17 (by simp only [List.length_cons, List.length_nil]; decide) ?_; refine t_seq ?_)
  (have hNE := True.intro; have hC := True.intro; repeat' first
    | with_reducible refine k_seq ?_
    | with_reducible refine t_seq ?_
    | with_reducible refine t_reg ?_
    | with_reducible refine t_nil ?_
    | with_reducible refine t_ret ?_
    | ((with_reducible apply t_val); exact rfl; (intro _ _ _ h; cases h); (focus (simp only [go_sem, hNE]; first | done | exact rfl)))
    | ((with_reducible apply t_append); (with_reducible exact app_23; with_reducible exact c_89); (focus (simp only [go_sem, hNE]; first | done | exact rfl)); (focus (simp only [go_sem, hNE]; first | done | exact rfl)); exact rfl; (focus (simp only [go_sem, hNE]; done)); (focus (simp only [go_sem, hNE]; done)); (focus (simp only [go_sem, hNE, roomB, List.length_take, List.length_append]; first | done | omega)))
    | (with_reducible intro hc la ha hn1; have hNE := And.intro hNE hn1)
    | (with_reducible intro hc; have hC := And.intro hC hc))
  all_goals (apply pend rs17; (focus (simp only [go_sem, *]; first | done | exact rfl)); (focus (simp only [go_sem, *]; first | done | exact rfl | simp_all)))
theorem p25 (p : Prc) (hl : p.ds.length ≤ 1000) : PPure Try.prog 25 [encP p] (encP p) := by
  simp only [encP]
  (refine ppure_of_T ok25 (by simp only [List.length_cons, List.length_nil]; decide) ?_; refine t_seq ?_)
  (have hNE := True.intro; have hC := True.intro; repeat' first
    | with_reducible refine k_seq ?_
    | with_reducible refine t_seq ?_
    | with_reducible refine t_reg ?_
    | with_reducible refine t_nil ?_
    | with_reducible refine t_ret ?_
    | with_reducible refine t_drwE (by decide +kernel) ?_
    | with_reducible refine m_nil ?_
    | ((with_reducible apply m_val); exact rfl; exact rfl; (intro _ _ _ h; cases h); (focus (simp only [go_sem, hNE]; first | done | exact rfl)))
    | ((with_reducible apply m_append); exact rfl; (with_reducible exact app_40; with_reducible exact c_60); (focus (simp only [go_sem, hNE]; first | done | exact rfl)); (focus (simp only [go_sem, hNE]; first | done | exact rfl)); exact rfl; (focus (simp only [go_sem, hNE]; done)); (focus (simp only [go_sem, hNE]; done)); (focus (simp only [go_sem, hNE, roomB, List.length_take, List.length_append]; first | done | omega)))
    | ((with_reducible apply t_box); (focus (simp only [go_sem, hNE]; first | done | exact rfl)); exact rfl; (focus (simp only [go_sem, hNE]; first | done | exact rfl)))
    | ((with_reducible apply t_alloc); (focus (simp only [go_sem, hNE]; first | done | exact rfl)); exact rfl; exact rfl; (intro la ha hn1; have hNE := And.intro hNE hn1))
    | ((with_reducible apply m_store); exact rfl; (focus (simp only [go_sem, hNE]; first | done | exact rfl)); (focus (simp only [go_sem, hNE]; first | done | exact rfl)); (focus (simp only [go_sem, hNE]; first | done | exact rfl)); (focus (simp only [go_sem, hNE]; first | done | exact rfl)); (focus (simp only [go_sem, hNE]; first | done | exact rfl)); (focus (simp only [go_sem, hNE]; first | done | exact rfl)))
    | (with_reducible intro hc la ha hn1; have hNE := And.intro hNE hn1)
    | (with_reducible intro hc; have hC := And.intro hC hc))
  all_goals (apply pend rs25; (focus (simp only [go_sem, *]; first | done | exact rfl)); (focus (simp only [go_sem, *]; first | done | exact rfl | simp_all)))
def mixF (a b : Dum) : Feat := if a.elem = true then b.f else a.f
theorem p61 (a b : Dum) : PPure Try.prog 61 [encD a, encD b] (encF (mixF a b)) := by
  simp only [encD]
  (refine ppure_of_T ok61 (by simp only [List.length_cons, List.length_nil]; decide) ?_; refine t_seq ?_)
  (have hNE := True.intro; have hC := True.intro; repeat' first
    | with_reducible refine k_seq ?_
    | with_reducible refine t_seq ?_
    | with_reducible refine t_reg ?_
    | with_reducible refine t_nil ?_
    | with_reducible refine t_skip ?_
    | with_reducible refine t_ret ?_
    | with_reducible refine k_seq_ret ?_
    | ((with_reducible apply t_val); exact rfl; (intro _ _ _ h; cases h); (focus (simp only [go_sem, hNE]; first | done | exact rfl)))
    | ((with_reducible apply t_box); (focus (simp only [go_sem, hNE]; first | done | exact rfl)); exact rfl; (focus (simp only [go_sem, hNE]; first | done | exact rfl)))
    | ((with_reducible apply t_alloc); (focus (simp only [go_sem, hNE]; first | done | exact rfl)); exact rfl; exact rfl; (intro la ha hn1; have hNE := And.intro hNE hn1))
    | ((with_reducible apply t_store); (focus (simp only [go_sem, hNE]; first | done | exact rfl)); (focus (simp only [go_sem, hNE]; first | done | exact rfl)); (focus (simp only [go_sem, hNE]; first | done | exact rfl)); (focus (simp only [go_sem, hNE]; first | done | exact rfl)); (focus (simp only [go_sem, hNE]; first | done | exact rfl)); (focus (simp only [go_sem, hNE]; first | done | exact rfl)))
    | ((with_reducible apply t_cond); (focus (simp only [go_sem, hNE]; first | done | exact rfl)))
    | (with_reducible intro hc; have hC := And.intro hC hc))
  all_goals (apply pend rs61; (focus (simp only [go_sem, mixF, encF, *]; first | done | exact rfl)); (focus (simp only [go_sem, mixF, encF, *]; first | done | exact rfl | simp_all)))
theorem Acc.norm {H : Hp} {v : PV} {n : Nat} {xs : List PV} (h : Acc H v n xs) (hc : xs.all (closedB false) = true) : norm false H 8 v = some (.list .any xs) := by
  rcases h with ⟨rfl, k, hk, rfl⟩ | ⟨l, rfl, hl⟩
  · rw [norm8]
    simp only [closedB, hk, Bool.or_self, Bool.false_and, Bool.false_eq_true, if_false, normStep, List.mapM_nil, Option.pure_def, Option.map_some]
  · rw [norm8]
    simp only [closedB, Bool.false_eq_true, if_false, normStep, hl]
    simp only [if_true, Nat.zero_add, Nat.le_refl, and_self, List.drop_zero, List.take_length]
    have : xs.mapM (Go.Proofs.Ytloecggdboingaa.norm false H 7) = some xs := norm_ok (n := 6) hc
    rw [this]; rfl
theorem all_clP (l : List Prc) : (l.map encP).all (closedB false) = true := by rw [List.all_map]; exact clPs l
theorem all_clA (l : List Act) : (l.map encA).all (closedB false) = true := by rw [List.all_map]; exact clAs l
theorem all_clI (l : List Int) : (l.map encI).all (closedB false) = true := by rw [List.all_map]; exact clIs l
theorem take_next {α : Type} {l : List α} {i : Nat} {x : α} (h : l[i]? = some x) : l.take (i + 1) = l.take i ++ [x] := by rw [List.take_add_one, h]; rfl
theorem p16 (l : List Prc) (h : Small l) : PPure Try.prog 16 [.list .any (l.map encP)] (.list .any (l.map encP)) := by
  have hl := h.1
  (refine ppure_of_T ok16 (by simp only [List.length_cons, List.length_nil]; decide) ?_; refine t_seq ?_)
  (have hNE := True.intro; have hC := True.intro; repeat' first
    | with_reducible refine k_seq ?_
    | with_reducible refine t_seq ?_
    | with_reducible refine t_reg ?_
    | with_reducible refine t_nil ?_
    | with_reducible refine t_block ?_
    | ((with_reducible apply t_val); exact rfl; (intro _ _ _ h; cases h); (focus (simp only [go_sem, hNE]; first | done | exact rfl))))
  refine t_loop (fun k s => ∃ i : Nat, i + k = l.length ∧ Acc s.H (s.env 3) 2 ((l.take i).map encP) ∧ s.env 0 = .list .any (l.map encP) ∧ s.env 4 = .int .i64 i) l.length ?_ ?_
  · exact ⟨0, by omega, Acc.nil _ _, by simp only [go_sem], by simp only [go_sem]; rfl⟩
  · rintro k s ⟨i, hk, hacc, h0, h4⟩
    by_cases hi : i < l.length
    · obtain ⟨x, hx, hd⟩ := at_list hi
      have hlt := lt_int hi
      have hw := wrap_next hi hl
      have hle := Int.le_of_lt hlt
      (have hNE := True.intro; have hC := True.intro; repeat' first
    | with_reducible refine k_seq ?_
    | with_reducible refine t_seq ?_
    | with_reducible refine t_reg ?_
    | with_reducible refine t_nil ?_
    | with_reducible refine t_skip ?_
    | with_reducible refine k_blk ?_
    | with_reducible refine t_block ?_
    | ((with_reducible apply t_val); exact rfl; (intro _ _ _ h; cases h); (focus (simp only [go_sem, hNE, h0, h4, hlt, hle, hw, hx, encP]; first | done | exact rfl)))
    | ((with_reducible apply t_callS); (focus (simp only [go_sem, hNE, h0, h4, hlt, hle, hw, hx, encP]; first | done | exact rfl)); (focus (simp only [go_sem, hNE, h0, h4, hlt, hle, hw, hx, encP]; first | done | exact rfl)); (focus (simp only [go_sem, hNE, h0, h4, hlt, hle, hw, hx, encP]; first | done | exact rfl)); (first | exact p25 x (h.at hx)))
    | ((with_reducible apply t_appendG); (with_reducible exact app_22; with_reducible exact c_42); (focus (simp only [go_sem, hNE, h0, h4, hlt, hle, hw, hx, encP]; first | done | exact rfl)); (first | exact hacc | exact hacc.upd2 (by assumption) | exact hacc.upd1 (by assumption) | (focus (refine Acc.sub hacc (fun l c hl => ?_); simp only [go_sem, hNE, h0, h4, hlt, hle, hw, hx, encP, hl]))); (focus (simp only [go_sem, hNE, h0, h4, hlt, hle, hw, hx, encP]; first | done | exact rfl)); exact rfl; (focus (simp only [go_sem, hNE, h0, h4, hlt, hle, hw, hx, encP]; done)); (focus (simp only [go_sem, hNE, h0, h4, hlt, hle, hw, hx, encP, roomB, List.length_take, List.length_append]; first | done | omega)); (intro u Hn hacc))
    | ((with_reducible apply t_cond); (focus (simp only [go_sem, hNE, h0, h4, hlt, hle, hw, hx, encP]; first | done | exact rfl)))
    | (with_reducible intro hc; with_reducible exact Bool.noConfusion hc)
    | (with_reducible intro hc; have hC := And.intro hC hc))
      refine k_inv (k - 1) (by omega) ⟨i + 1, by omega, ?_, by simp only [go_sem, h0], by simp only [go_sem, h4, hw]⟩
      rw [take_next hx, List.map_append]
      exact hacc
    · have hlt := nlt_int hi
      rw [List.take_of_length_le (by omega)] at hacc
      (have hNE := True.intro; have hC := True.intro; repeat' first
    | with_reducible refine k_seq ?_
    | with_reducible refine t_seq ?_
    | with_reducible refine t_reg ?_
    | with_reducible refine t_nil ?_
    | with_reducible refine t_ret ?_
    | with_reducible refine t_exit ?_
    | with_reducible refine k_seq_exit ?_
    | with_reducible refine k_blk_exit ?_
    | with_reducible refine k_inv_exit ?_
    | ((with_reducible apply t_val); exact rfl; (intro _ _ _ h; cases h); (focus (simp only [go_sem, hNE, h0, h4, hlt]; first | done | exact rfl)))
    | ((with_reducible apply t_cond); (focus (simp only [go_sem, hNE, h0, h4, hlt]; first | done | exact rfl)))
    | (with_reducible intro hc; with_reducible exact Bool.noConfusion hc)
    | (with_reducible intro hc; have hC := And.intro hC hc))
      all_goals (apply pend rs16; (focus (simp only [go_sem]; rfl)); exact hacc.norm (all_clP l))
end Go.Proofs.Ytloecggdboingaa
namespace Go.Proofs.Ytloecggdboingaa
open Go.RowKit Go.Proofs
set_option linter.unusedVariables false
set_option linter.unusedSimpArgs false
attribute [local irreducible] PPure

theorem e_89 : flatEq Try.prog 89 = some [.s, .i .i64, .i .i64, .i .i64] := by kernel_rfl
theorem e_58 : flatEq Try.prog 58 = some [.i .i64, .i .i64, .i .i64] := by kernel_rfl
theorem e_72 : flatEq Try.prog 72 = some [.i .i64, .i .i64, .i .i64, .i .i64] := by kernel_rfl
attribute [go_sem] e_89 e_58 e_72 PV.ck cellsEq

def longB (n : Nat) (k : Int) : Bool := decide (k < (n : Int))
def shortAll (ds : List Dum) : Bool := ds.all fun d => !longB d.name.length 40
def shortB (p : Prc) : Bool := !longB p.ds.length 10 && !longB p.name.length 40 && shortAll p.ds
theorem p23 (p : Prc) : PPure Try.prog 23 [encP p] (.bool (shortB p)) := by
  simp only [encP]
  (refine ppure_of_T ok23 (by simp only [List.length_cons, List.length_nil]; decide) ?_; refine t_seq ?_)
  (have hNE := True.intro; have hC := True.intro; repeat' first
    | with_reducible refine k_seq ?_
    | with_reducible refine t_seq ?_
    | with_reducible refine t_reg ?_
    | with_reducible refine t_nil ?_
    | with_reducible refine t_skip ?_
    | with_reducible refine t_ret ?_
    | with_reducible refine k_seq_ret ?_
    | with_reducible refine t_block ?_
    | ((with_reducible apply t_val); exact rfl; (intro _ _ _ h; cases h); (focus (simp only [go_sem, hNE]; first | done | exact rfl)))
    | ((with_reducible apply t_gval); exact rfl; (focus (simp only [go_sem, hNE]; first | done | exact rfl)); exact rfl; (intro _ _ _ h; cases h); (focus (intro hG; simp only [go_sem, hNE, hG]; first | done | exact rfl)))
    | ((with_reducible apply t_box); (focus (simp only [go_sem, hNE]; first | done | exact rfl)); exact rfl; (focus (simp only [go_sem, hNE]; first | done | exact rfl)))
    | ((with_reducible apply t_cond); (focus (simp only [go_sem, hNE]; first | done | exact rfl)))
    | (with_reducible intro hc; have hC := And.intro hC hc))
  · rw [show shortB p = false by simp only [shortB, longB]; simp only [Bool.or_eq_true] at hc; rcases hc with hc | hc <;> simp only [hc] <;> simp]
    all_goals (apply pend rs23; (focus (simp only [go_sem, *]; first | done | exact rfl)); (focus (simp only [go_sem, *]; first | done | exact rfl | simp_all)))
  · have hl : p.ds.length ≤ 1000 := by simp at hc; omega
    rw [show shortB p = shortAll p.ds by simp only [shortB, longB]; simp only [Bool.or_eq_false_iff] at hc; simp only [hc.1, hc.2]; rfl]
    refine t_loop (fun k s => ∃ i : Nat, i + k = p.ds.length ∧ shortAll (p.ds.drop i) = shortAll p.ds ∧ s.env 1 = .cptr [.str p.name, .list .any (p.ds.map encD)] ∧ s.env 3 = .int .i64 i) p.ds.length ?_ ?_
    · exact ⟨0, by omega, rfl, by simp only [go_sem, encD]; first | done | rfl, by simp only [go_sem, encD]; first | done | rfl⟩
    · rintro k s ⟨i, hk, hr, h1, h3⟩
      by_cases hi : i < p.ds.length
      · obtain ⟨x, hx, hd⟩ := at_list hi
        have hlt := lt_int hi
        have hw := wrap_next hi hl
        have hle := Int.le_of_lt hlt
        rw [hd] at hr
        (have hNE := True.intro; have hC := True.intro; repeat' first
      | with_reducible refine k_seq ?_
      | with_reducible refine t_seq ?_
      | with_reducible refine t_reg ?_
      | with_reducible refine t_nil ?_
      | with_reducible refine t_skip ?_
      | with_reducible refine t_ret ?_
      | with_reducible refine k_seq_ret ?_
      | with_reducible refine k_blk_ret ?_
      | with_reducible refine k_blk ?_
      | with_reducible refine k_inv_ret ?_
      | with_reducible refine t_block ?_
      | ((with_reducible apply t_val); exact rfl; (intro _ _ _ h; cases h); (focus (simp only [go_sem, hNE, encD, h1, h3, hlt, hle, hx, hw]; first | done | exact rfl)))
      | ((with_reducible apply t_cond); (focus (simp only [go_sem, hNE, encD, h1, h3, hlt, hle, hx, hw]; first | done | exact rfl)))
      | (with_reducible intro hc; with_reducible exact Bool.noConfusion hc)
      | (with_reducible intro hc; have hC := And.intro hC hc))
        all_goals (first
            | (apply pend rs23; (focus (simp only [go_sem, encD, h1, h3, hlt, hle, hx, hw]; first | done | exact rfl)); (focus (simp only [go_sem, encD, h1, h3, hlt, hle, hx, hw]; first | done | (rw [← hr]; simp only [shortAll, List.all_cons, longB]; rw [hc]; rfl) | (rw [← hr]; clear hr; simp_all [shortAll, longB]))))
            | (apply pendN rs23; (focus (simp only [go_sem, encD, h1, h3, hlt, hle, hx, hw]; first | done | exact rfl)); (focus (simp only [go_sem, encD, h1, h3, hlt, hle, hx, hw]; first | done | (rw [← hr]; simp only [shortAll, List.all_cons, longB]; rw [hc]; rfl) | (rw [← hr]; clear hr; simp_all [shortAll, longB]))))
            | (refine k_inv (k - 1) (by omega) ⟨i + 1, by omega, (by first | (simp only [shortAll, List.all_cons, longB] at hr ⊢; rw [hc, Bool.not_false, Bool.true_and] at hr; exact hr) | exact hr | (simpa [shortAll, longB, hc] using hr) | (simp_all [shortAll, longB])), by simp only [go_sem, encD, h1, h3, hw]; first | done | rfl, by simp only [go_sem, encD, h1, h3, hw]; first | done | rfl⟩))
      · have hlt := nlt_int hi
        rw [at_end hi] at hr
        (have hNE := True.intro; have hC := True.intro; repeat' first
      | with_reducible refine k_seq ?_
      | with_reducible refine t_seq ?_
      | with_reducible refine t_reg ?_
      | with_reducible refine t_nil ?_
      | with_reducible refine t_ret ?_
      | with_reducible refine t_exit ?_
      | with_reducible refine k_seq_exit ?_
      | with_reducible refine k_blk_exit ?_
      | with_reducible refine k_inv_exit ?_
      | ((with_reducible apply t_val); exact rfl; (intro _ _ _ h; cases h); (focus (simp only [go_sem, hNE, encD, h1, h3, hlt]; first | done | exact rfl)))
      | ((with_reducible apply t_cond); (focus (simp only [go_sem, hNE, encD, h1, h3, hlt]; first | done | exact rfl)))
      | (with_reducible intro hc; with_reducible exact Bool.noConfusion hc)
      | (with_reducible intro hc; have hC := And.intro hC hc))
        all_goals (first
            | (apply pend rs23; (focus (simp only [go_sem, encD, h1, h3, hlt]; first | done | exact rfl)); (focus (simp only [go_sem, encD, h1, h3, hlt]; first | done | (rw [← hr]; simp only [shortAll, List.all_cons, longB]; rw [hc]; rfl) | (rw [← hr]; clear hr; simp_all [shortAll, longB]))))
            | (apply pendN rs23; (focus (simp only [go_sem, encD, h1, h3, hlt]; first | done | exact rfl)); (focus (simp only [go_sem, encD, h1, h3, hlt]; first | done | (rw [← hr]; simp only [shortAll, List.all_cons, longB]; rw [hc]; rfl) | (rw [← hr]; clear hr; simp_all [shortAll, longB]))))
            | (refine k_inv (k - 1) (by omega) ⟨i + 1, by omega, (by first | (simp only [shortAll, List.all_cons, longB] at hr ⊢; rw [hc, Bool.not_false, Bool.true_and] at hr; exact hr) | exact hr | (simpa [shortAll, longB, hc] using hr) | (simp_all [shortAll, longB])), by simp only [go_sem, encD, h1, h3, hw]; first | done | rfl, by simp only [go_sem, encD, h1, h3, hw]; first | done | rfl⟩))
def fewAll (l : List Prc) : Bool := l.all shortB
def fewB (l : List Prc) : Bool := !longB l.length 10 && fewAll l
theorem p13 (l : List Prc) : PPure Try.prog 13 [.list .any (l.map encP)] (.bool (fewB l)) := by
  (refine ppure_of_T ok13 (by simp only [List.length_cons, List.length_nil]; decide) ?_; refine t_seq ?_)
  (have hNE := True.intro; have hC := True.intro; repeat' first
    | with_reducible refine k_seq ?_
    | with_reducible refine t_seq ?_
    | with_reducible refine t_reg ?_
    | with_reducible refine t_nil ?_
    | with_reducible refine t_skip ?_
    | with_reducible refine t_ret ?_
    | with_reducible refine k_seq_ret ?_
    | with_reducible refine t_block ?_
    | ((with_reducible apply t_val); exact rfl; (intro _ _ _ h; cases h); (focus (simp only [go_sem, hNE]; first | done | exact rfl)))
    | ((with_reducible apply t_cond); (focus (simp only [go_sem, hNE]; first | done | exact rfl)))
    | (with_reducible intro hc; have hC := And.intro hC hc))
  · rw [show fewB l = false by simp only [fewB, longB, hc]; rfl]
    all_goals (apply pend rs13; (focus (simp only [go_sem, *]; first | done | exact rfl)); (focus (simp only [go_sem, *]; first | done | exact rfl | simp_all)))
  · have hl : l.length ≤ 1000 := by simp at hc; omega
    rw [show fewB l = fewAll l by simp only [fewB, longB, hc]; rfl]
    refine t_loop (fun k s => ∃ i : Nat, i + k = l.length ∧ fewAll (l.drop i) = fewAll l ∧ s.env 0 = .list .any (l.map encP) ∧ s.env 3 = .int .i64 i) l.length ?_ ?_
    · exact ⟨0, by omega, rfl, by simp only [go_sem, encP]; first | done | rfl, by simp only [go_sem, encP]; first | done | rfl⟩
    · rintro k s ⟨i, hk, hr, h0, h3⟩
      by_cases hi : i < l.length
      · obtain ⟨x, hx, hd⟩ := at_list hi
        have hlt := lt_int hi
        have hw := wrap_next hi hl
        have hle := Int.le_of_lt hlt
        rw [hd] at hr
        (have hNE := True.intro; have hC := True.intro; repeat' first
      | with_reducible refine k_seq ?_
      | with_reducible refine t_seq ?_
      | with_reducible refine t_reg ?_
      | with_reducible refine t_nil ?_
      | with_reducible refine t_skip ?_
      | with_reducible refine t_ret ?_
      | with_reducible refine k_seq_ret ?_
      | with_reducible refine k_blk_ret ?_
      | with_reducible refine k_blk ?_
      | with_reducible refine k_inv_ret ?_
      | with_reducible refine t_block ?_
      | ((with_reducible apply t_val); exact rfl; (intro _ _ _ h; cases h); (focus (simp only [go_sem, hNE, encP, h0, h3, hlt, hle, hx, hw]; first | done | exact rfl)))
      | ((with_reducible apply t_callS); (focus (simp only [go_sem, hNE, encP, h0, h3, hlt, hle, hx, hw]; first | done | exact rfl)); (focus (simp only [go_sem, hNE, encP, h0, h3, hlt, hle, hx, hw]; first | done | exact rfl)); (focus (simp only [go_sem, hNE, encP, h0, h3, hlt, hle, hx, hw]; first | done | exact rfl)); (first | exact p23 x))
      | ((with_reducible apply t_cond); (focus (simp only [go_sem, hNE, encP, h0, h3, hlt, hle, hx, hw]; first | done | exact rfl)))
      | (with_reducible intro hc; with_reducible exact Bool.noConfusion hc)
      | (with_reducible intro hc; have hC := And.intro hC hc))
        all_goals (first
            | (apply pend rs13; (focus (simp only [go_sem, encP, h0, h3, hlt, hle, hx, hw]; first | done | exact rfl)); (focus (simp only [go_sem, encP, h0, h3, hlt, hle, hx, hw]; first | done | (rw [← hr]; clear hr; simp_all [fewAll]))))
            | (apply pendN rs13; (focus (simp only [go_sem, encP, h0, h3, hlt, hle, hx, hw]; first | done | exact rfl)); (focus (simp only [go_sem, encP, h0, h3, hlt, hle, hx, hw]; first | done | (rw [← hr]; clear hr; simp_all [fewAll]))))
            | (refine k_inv (k - 1) (by omega) ⟨i + 1, by omega, (by first | exact hr | (simpa [fewAll, hc] using hr) | (simp_all [fewAll])), by simp only [go_sem, encP, h0, h3, hw]; first | done | rfl, by simp only [go_sem, encP, h0, h3, hw]; first | done | rfl⟩))
      · have hlt := nlt_int hi
        rw [at_end hi] at hr
        (have hNE := True.intro; have hC := True.intro; repeat' first
      | with_reducible refine k_seq ?_
      | with_reducible refine t_seq ?_
      | with_reducible refine t_reg ?_
      | with_reducible refine t_nil ?_
      | with_reducible refine t_ret ?_
      | with_reducible refine t_exit ?_
      | with_reducible refine k_seq_exit ?_
      | with_reducible refine k_blk_exit ?_
      | with_reducible refine k_inv_exit ?_
      | ((with_reducible apply t_val); exact rfl; (intro _ _ _ h; cases h); (focus (simp only [go_sem, hNE, encP, h0, h3, hlt]; first | done | exact rfl)))
      | ((with_reducible apply t_cond); (focus (simp only [go_sem, hNE, encP, h0, h3, hlt]; first | done | exact rfl)))
      | (with_reducible intro hc; with_reducible exact Bool.noConfusion hc)
      | (with_reducible intro hc; have hC := And.intro hC hc))
        all_goals (first
            | (apply pend rs13; (focus (simp only [go_sem, encP, h0, h3, hlt]; first | done | exact rfl)); (focus (simp only [go_sem, encP, h0, h3, hlt]; first | done | (rw [← hr]; clear hr; simp_all [fewAll]))))
            | (apply pendN rs13; (focus (simp only [go_sem, encP, h0, h3, hlt]; first | done | exact rfl)); (focus (simp only [go_sem, encP, h0, h3, hlt]; first | done | (rw [← hr]; clear hr; simp_all [fewAll]))))
            | (refine k_inv (k - 1) (by omega) ⟨i + 1, by omega, (by first | exact hr | (simpa [fewAll, hc] using hr) | (simp_all [fewAll])), by simp only [go_sem, encP, h0, h3, hw]; first | done | rfl, by simp only [go_sem, encP, h0, h3, hw]; first | done | rfl⟩))
def briefAll (c : List Act) : Bool := c.all fun x => !longB x.kw.length 40
def briefB (c : List Act) : Bool := !longB c.length 10 && briefAll c
theorem p14 (c : List Act) : PPure Try.prog 14 [.list .any (c.map encA)] (.bool (briefB c)) := by
  (refine ppure_of_T ok14 (by simp only [List.length_cons, List.length_nil]; decide) ?_; refine t_seq ?_)
  (have hNE := True.intro; have hC := True.intro; repeat' first
    | with_reducible refine k_seq ?_
    | with_reducible refine t_seq ?_
    | with_reducible refine t_reg ?_
    | with_reducible refine t_nil ?_
    | with_reducible refine t_skip ?_
    | with_reducible refine t_ret ?_
    | with_reducible refine k_seq_ret ?_
    | with_reducible refine t_block ?_
    | ((with_reducible apply t_val); exact rfl; (intro _ _ _ h; cases h); (focus (simp only [go_sem, hNE]; first | done | exact rfl)))
    | ((with_reducible apply t_cond); (focus (simp only [go_sem, hNE]; first | done | exact rfl)))
    | (with_reducible intro hc; have hC := And.intro hC hc))
  · rw [show briefB c = false by simp only [briefB, longB, hc]; rfl]
    all_goals (apply pend rs14; (focus (simp only [go_sem, *]; first | done | exact rfl)); (focus (simp only [go_sem, *]; first | done | exact rfl | simp_all)))
  · have hl : c.length ≤ 1000 := by simp at hc; omega
    rw [show briefB c = briefAll c by simp only [briefB, longB, hc]; rfl]
    refine t_loop (fun k s => ∃ i : Nat, i + k = c.length ∧ briefAll (c.drop i) = briefAll c ∧ s.env 0 = .list .any (c.map encA) ∧ s.env 3 = .int .i64 i) c.length ?_ ?_
    · exact ⟨0, by omega, rfl, by simp only [go_sem, encA]; first | done | rfl, by simp only [go_sem, encA]; first | done | rfl⟩
    · rintro k s ⟨i, hk, hr, h0, h3⟩
      by_cases hi : i < c.length
      · obtain ⟨x, hx, hd⟩ := at_list hi
        have hlt := lt_int hi
        have hw := wrap_next hi hl
        have hle := Int.le_of_lt hlt
        rw [hd] at hr
        (have hNE := True.intro; have hC := True.intro; repeat' first
      | with_reducible refine k_seq ?_
      | with_reducible refine t_seq ?_
      | with_reducible refine t_reg ?_
      | with_reducible refine t_nil ?_
      | with_reducible refine t_skip ?_
      | with_reducible refine t_ret ?_
      | with_reducible refine k_seq_ret ?_
      | with_reducible refine k_blk_ret ?_
      | with_reducible refine k_blk ?_
      | with_reducible refine k_inv_ret ?_
      | with_reducible refine t_block ?_
      | ((with_reducible apply t_val); exact rfl; (intro _ _ _ h; cases h); (focus (simp only [go_sem, hNE, encA, h0, h3, hlt, hle, hx, hw]; first | done | exact rfl)))
      | ((with_reducible apply t_cond); (focus (simp only [go_sem, hNE, encA, h0, h3, hlt, hle, hx, hw]; first | done | exact rfl)))
      | (with_reducible intro hc; with_reducible exact Bool.noConfusion hc)
      | (with_reducible intro hc; have hC := And.intro hC hc))
        all_goals (first
            | (apply pend rs14; (focus (simp only [go_sem, encA, h0, h3, hlt, hle, hx, hw]; first | done | exact rfl)); (focus (simp only [go_sem, encA, h0, h3, hlt, hle, hx, hw]; first | done | (rw [← hr]; simp only [briefAll, List.all_cons, longB]; rw [hc]; rfl) | (rw [← hr]; clear hr; simp_all [briefAll, longB]))))
            | (apply pendN rs14; (focus (simp only [go_sem, encA, h0, h3, hlt, hle, hx, hw]; first | done | exact rfl)); (focus (simp only [go_sem, encA, h0, h3, hlt, hle, hx, hw]; first | done | (rw [← hr]; simp only [briefAll, List.all_cons, longB]; rw [hc]; rfl) | (rw [← hr]; clear hr; simp_all [briefAll, longB]))))
            | (refine k_inv (k - 1) (by omega) ⟨i + 1, by omega, (by first | (simp only [briefAll, List.all_cons, longB] at hr ⊢; rw [hc, Bool.not_false, Bool.true_and] at hr; exact hr) | exact hr | (simpa [briefAll, longB, hc] using hr) | (simp_all [briefAll, longB])), by simp only [go_sem, encA, h0, h3, hw]; first | done | rfl, by simp only [go_sem, encA, h0, h3, hw]; first | done | rfl⟩))
      · have hlt := nlt_int hi
        rw [at_end hi] at hr
        (have hNE := True.intro; have hC := True.intro; repeat' first
      | with_reducible refine k_seq ?_
      | with_reducible refine t_seq ?_
      | with_reducible refine t_reg ?_
      | with_reducible refine t_nil ?_
      | with_reducible refine t_ret ?_
      | with_reducible refine t_exit ?_
      | with_reducible refine k_seq_exit ?_
      | with_reducible refine k_blk_exit ?_
      | with_reducible refine k_inv_exit ?_
      | ((with_reducible apply t_val); exact rfl; (intro _ _ _ h; cases h); (focus (simp only [go_sem, hNE, encA, h0, h3, hlt]; first | done | exact rfl)))
      | ((with_reducible apply t_cond); (focus (simp only [go_sem, hNE, encA, h0, h3, hlt]; first | done | exact rfl)))
      | (with_reducible intro hc; with_reducible exact Bool.noConfusion hc)
      | (with_reducible intro hc; have hC := And.intro hC hc))
        all_goals (first
            | (apply pend rs14; (focus (simp only [go_sem, encA, h0, h3, hlt]; first | done | exact rfl)); (focus (simp only [go_sem, encA, h0, h3, hlt]; first | done | (rw [← hr]; simp only [briefAll, List.all_cons, longB]; rw [hc]; rfl) | (rw [← hr]; clear hr; simp_all [briefAll, longB]))))
            | (apply pendN rs14; (focus (simp only [go_sem, encA, h0, h3, hlt]; first | done | exact rfl)); (focus (simp only [go_sem, encA, h0, h3, hlt]; first | done | (rw [← hr]; simp only [briefAll, List.all_cons, longB]; rw [hc]; rfl) | (rw [← hr]; clear hr; simp_all [briefAll, longB]))))
            | (refine k_inv (k - 1) (by omega) ⟨i + 1, by omega, (by first | (simp only [briefAll, List.all_cons, longB] at hr ⊢; rw [hc, Bool.not_false, Bool.true_and] at hr; exact hr) | exact hr | (simpa [briefAll, longB, hc] using hr) | (simp_all [briefAll, longB])), by simp only [go_sem, encA, h0, h3, hw]; first | done | rfl, by simp only [go_sem, encA, h0, h3, hw]; first | done | rfl⟩))
end Go.Proofs.Ytloecggdboingaa
namespace Go.Proofs.Ytloecggdboingaa
open Go.RowKit Go.Proofs
set_option linter.unusedVariables false
set_option linter.unusedSimpArgs false
attribute [local irreducible] PPure

def before : List Int → List Int → Bool
  | [], b => !b.isEmpty
  | _ :: _, [] => false
  | x :: a, y :: b => decide (x < y) || (decide (x = y) && before a b)
theorem cast0 : ((0 : Nat) : Int) = 0 := rfl
attribute [go_sem] cast0
theorem p58 : ∀ (a b : List Int), a.length ≤ 1000 → b.length ≤ 1000 → PPure Try.prog 58 [.list .any (a.map encI), .list .any (b.map encI)] (.bool (before a b)) := by
  intro a
  induction a with
  | nil =>
    intro b _ hb
    cases b with
    | nil =>
      (refine ppure_of_T ok58 (by simp only [List.length_cons, List.length_nil]; decide) ?_; refine t_seq ?_)
      (have hNE := True.intro; have hC := True.intro; repeat' first
    | with_reducible refine k_seq ?_
    | with_reducible refine t_seq ?_
    | with_reducible refine t_reg ?_
    | with_reducible refine t_nil ?_
    | with_reducible refine t_ret ?_
    | with_reducible refine k_seq_ret ?_
    | ((with_reducible apply t_val); exact rfl; (intro _ _ _ h; cases h); (focus (simp only [go_sem, hNE, List.isEmpty_nil]; first | done | exact rfl)))
    | ((with_reducible apply t_gval); exact rfl; (focus (simp only [go_sem, hNE, List.isEmpty_nil]; first | done | exact rfl)); exact rfl; (intro _ _ _ h; cases h); (focus (intro hG; simp only [go_sem, hNE, List.isEmpty_nil, hG]; first | done | exact rfl)))
    | ((with_reducible apply t_cond); (focus (simp only [go_sem, hNE, List.isEmpty_nil]; first | done | exact rfl)))
    | (with_reducible intro hc; with_reducible exact Bool.noConfusion hc)
    | (with_reducible intro hc; have hC := And.intro hC hc))
      all_goals (apply pend rs58; (focus (simp only [go_sem, before, List.isEmpty_nil, *]; first | done | exact rfl)); (focus (simp only [go_sem, before, List.isEmpty_nil, *]; first | done | exact rfl | simp_all)))
    | cons y b =>
      have h0 : decide ((0 : Int) < ((b.length + 1 : Nat) : Int)) = true := by simp only [decide_eq_true_eq]; omega
      (refine ppure_of_T ok58 (by simp only [List.length_cons, List.length_nil]; decide) ?_; refine t_seq ?_)
      (have hNE := True.intro; have hC := True.intro; repeat' first
    | with_reducible refine k_seq ?_
    | with_reducible refine t_seq ?_
    | with_reducible refine t_reg ?_
    | with_reducible refine t_nil ?_
    | with_reducible refine t_ret ?_
    | with_reducible refine k_seq_ret ?_
    | ((with_reducible apply t_val); exact rfl; (intro _ _ _ h; cases h); (focus (simp only [go_sem, hNE, h0]; first | done | exact rfl)))
    | ((with_reducible apply t_gval); exact rfl; (focus (simp only [go_sem, hNE, h0]; first | done | exact rfl)); exact rfl; (intro _ _ _ h; cases h); (focus (intro hG; simp only [go_sem, hNE, h0, hG]; first | done | exact rfl)))
    | ((with_reducible apply t_cond); (focus (simp only [go_sem, hNE, h0]; first | done | exact rfl)))
    | (with_reducible intro hc; with_reducible exact Bool.noConfusion hc)
    | (with_reducible intro hc; have hC := And.intro hC hc))
      all_goals (apply pend rs58; (focus (simp only [go_sem, before, List.isEmpty_cons, h0, *]; first | done | exact rfl)); (focus (simp only [go_sem, before, List.isEmpty_cons, h0, *]; first | done | exact rfl | simp_all)))
  | cons x a ih =>
    intro b ha hb
    have hz : ((a.length + 1 : Nat) : Int) = 0 ↔ False := by simp; omega
    cases b with
    | nil =>
      have h1 : decide (((a.length + 1 : Nat) : Int) < 0) = false := by simp; omega
      (refine ppure_of_T ok58 (by simp only [List.length_cons, List.length_nil]; decide) ?_; refine t_seq ?_)
      (have hNE := True.intro; have hC := True.intro; repeat' first
    | with_reducible refine k_seq ?_
    | with_reducible refine t_seq ?_
    | with_reducible refine t_reg ?_
    | with_reducible refine t_nil ?_
    | with_reducible refine t_ret ?_
    | with_reducible refine k_seq_ret ?_
    | ((with_reducible apply t_val); exact rfl; (intro _ _ _ h; cases h); (focus (simp only [go_sem, hNE, hz, h1]; first | done | exact rfl)))
    | ((with_reducible apply t_gval); exact rfl; (focus (simp only [go_sem, hNE, hz, h1]; first | done | exact rfl)); exact rfl; (intro _ _ _ h; cases h); (focus (intro hG; simp only [go_sem, hNE, hz, h1, hG]; first | done | exact rfl)))
    | ((with_reducible apply t_cond); (focus (simp only [go_sem, hNE, hz, h1]; first | done | exact rfl)))
    | (with_reducible intro hc; with_reducible exact Bool.noConfusion hc)
    | (with_reducible intro hc; have hC := And.intro hC hc))
      all_goals (apply pend rs58; (focus (simp only [go_sem, before, h1, *]; first | done | exact rfl)); (focus (simp only [go_sem, before, h1, *]; first | done | exact rfl | simp_all)))
    | cons y b =>
      have hy : ((b.length + 1 : Nat) : Int) = 0 ↔ False := by simp; omega
      have h1 : (1 : Int) ≤ ((a.length + 1 : Nat) : Int) := by omega
      have h2 : (1 : Int) ≤ ((b.length + 1 : Nat) : Int) := by omega
      have h3 : (0 : Int) < ((a.length + 1 : Nat) : Int) := by omega
      have h4 : (0 : Int) < ((b.length + 1 : Nat) : Int) := by omega
      have ha' : a.length ≤ 1000 := by simp at ha; omega
      have hb' : b.length ≤ 1000 := by simp at hb; omega
      have hc1 : widthB 1 (PV.int .i64 x :: a.map encI) = true := wdI (x :: a)
      have hc2 : widthB 1 (PV.int .i64 y :: b.map encI) = true := wdI (y :: b)
      (refine ppure_of_T ok58 (by simp only [List.length_cons, List.length_nil]; decide) ?_; refine t_seq ?_)
      (have hNE := True.intro; have hC := True.intro; repeat' first
    | with_reducible refine k_seq ?_
    | with_reducible refine t_seq ?_
    | with_reducible refine t_reg ?_
    | with_reducible refine t_nil ?_
    | with_reducible refine t_skip ?_
    | with_reducible refine t_ret ?_
    | with_reducible refine t_drwE (by decide +kernel) ?_
    | with_reducible refine m_nil ?_
    | ((with_reducible apply t_val); exact rfl; (intro _ _ _ h; cases h); (focus (simp only [go_sem, hNE, hz, hy, h1, h2, h3, h4, encI, hc1, hc2, Int.le_refl]; first | done | exact rfl)))
    | ((with_reducible apply t_gval); exact rfl; (focus (simp only [go_sem, hNE, hz, hy, h1, h2, h3, h4, encI, hc1, hc2, Int.le_refl]; first | done | exact rfl)); exact rfl; (intro _ _ _ h; cases h); (focus (intro hG; simp only [go_sem, hNE, hz, hy, h1, h2, h3, h4, encI, hc1, hc2, Int.le_refl, hG]; first | done | exact rfl)))
    | ((with_reducible apply m_val); exact rfl; exact rfl; (intro _ _ _ h; cases h); (focus (simp only [go_sem, hNE, hz, hy, h1, h2, h3, h4, encI, hc1, hc2, Int.le_refl]; first | done | exact rfl)))
    | ((with_reducible apply m_gval); exact rfl; exact rfl; (focus (simp only [go_sem, hNE, hz, hy, h1, h2, h3, h4, encI, hc1, hc2, Int.le_refl]; first | done | exact rfl)); exact rfl; (intro _ _ _ h; cases h); (focus (intro hG; simp only [go_sem, hNE, hz, hy, h1, h2, h3, h4, encI, hc1, hc2, Int.le_refl, hG]; first | done | exact rfl)))
    | ((with_reducible apply m_gval2); exact rfl; exact rfl; (focus (simp only [go_sem, hNE, hz, hy, h1, h2, h3, h4, encI, hc1, hc2, Int.le_refl]; first | done | exact rfl)); exact rfl; (intro _ _ _ h; cases h); (focus (intro hG hG2; simp only [go_sem, hNE, hz, hy, h1, h2, h3, h4, encI, hc1, hc2, Int.le_refl, hG, hG2]; first | done | exact rfl)))
    | ((with_reducible apply m_gcall2); exact rfl; exact rfl; (focus (simp only [go_sem, hNE, hz, hy, h1, h2, h3, h4, encI, hc1, hc2, Int.le_refl]; first | done | exact rfl)); (focus (simp only [go_sem, hNE, hz, hy, h1, h2, h3, h4, encI, hc1, hc2, Int.le_refl]; first | done | exact rfl)); (focus (intro hG hG2; simp only [go_sem, hNE, hz, hy, h1, h2, h3, h4, encI, hc1, hc2, Int.le_refl, hG, hG2]; first | done | exact rfl)); (focus (simp only [go_sem, hNE, hz, hy, h1, h2, h3, h4, encI, hc1, hc2, Int.le_refl]; done)); (intro hG hG2; first | exact ih b ha' hb'))
    | ((with_reducible apply t_cond); (focus (simp only [go_sem, hNE, hz, hy, h1, h2, h3, h4, encI, hc1, hc2, Int.le_refl]; first | done | exact rfl)))
    | (with_reducible intro hc; with_reducible exact Bool.noConfusion hc)
    | (with_reducible intro hc; have hC := And.intro hC hc))
      all_goals (apply pend rs58; (focus (simp only [go_sem, before, *]; first | done | exact rfl)); (focus (simp only [go_sem, before, *]; first | done | exact rfl | simp_all)))
def intsB (a b : List Int) : Bool := decide ((a.length : Int) = b.length) && !before a b && !before b a
theorem p22 (a b : List Int) (ha : a.length ≤ 1000) (hb : b.length ≤ 1000) : PPure Try.prog 22 [.list .any (a.map encI), .list .any (b.map encI)] (.bool (intsB a b)) := by
  (refine ppure_of_T ok22 (by simp only [List.length_cons, List.length_nil]; decide) ?_; refine t_seq ?_)
  (have hNE := True.intro; have hC := True.intro; repeat' first
    | with_reducible refine k_seq ?_
    | with_reducible refine t_seq ?_
    | with_reducible refine t_reg ?_
    | with_reducible refine t_nil ?_
    | with_reducible refine t_ret ?_
    | ((with_reducible apply t_val); exact rfl; (intro _ _ _ h; cases h); (focus (simp only [go_sem, hNE]; first | done | exact rfl)))
    | ((with_reducible apply t_gval); exact rfl; (focus (simp only [go_sem, hNE]; first | done | exact rfl)); exact rfl; (intro _ _ _ h; cases h); (focus (intro hG; simp only [go_sem, hNE, hG]; first | done | exact rfl)))
    | ((with_reducible apply t_gcallS); exact rfl; (focus (simp only [go_sem, hNE]; first | done | exact rfl)); (focus (simp only [go_sem, hNE]; first | done | exact rfl)); (focus (intro hG; simp only [go_sem, hNE, hG]; first | done | exact rfl)); (focus (simp only [go_sem, hNE]; done)); (intro hG; first | exact p58 a b ha hb | exact p58 b a hb ha)))
  all_goals (apply pend rs22; (focus (simp only [go_sem, intsB, *]; first | done | exact rfl)); (focus (simp only [go_sem, intsB, *]; first | done | exact rfl | simp_all)))
theorem before_irr : ∀ a : List Int, before a a = false
  | [] => rfl
  | x :: a => by simp [before, before_irr a]
theorem before_eq : ∀ a b : List Int, a.length = b.length → before a b = false → before b a = false → a = b
  | [], [], _, _, _ => rfl
  | x :: a, y :: b, h, h1, h2 => by
    simp [before] at h h1 h2
    have : x = y := by omega
    subst this
    rw [before_eq a b h (h1.2 rfl) (h2.2 rfl)]
theorem intsB_iff (a b : List Int) : intsB a b = true ↔ a = b := by
  constructor
  · intro h
    simp [intsB] at h
    exact before_eq a b (by omega) h.1.2 h.2
  · rintro rfl
    simp [intsB, before_irr]
end Go.Proofs.Ytloecggdboingaa
namespace Go.Proofs.Ytloecggdboingaa
open Go.RowKit Go.Proofs
set_option linter.unusedVariables false
set_option linter.unusedSimpArgs false
attribute [local irreducible] PPure

theorem idx_nn {α : Type} {g : α → Bool} : ∀ (l : List α) (j : Nat), idx g l j = -1 ∨ ((j : Int) ≤ idx g l j)
  | [], _ => .inl rfl
  | x :: r, j => by
    unfold idx
    split
    · exact .inr (Int.le_refl _)
    · have := idx_nn (g := g) r (j + 1)
      rw [show ((j : Int) + 1) = ((j + 1 : Nat) : Int) from rfl]
      omega
theorem at_take {α : Type} {l : List α} {i j : Nat} (hj : j < i) (hi : i ≤ l.length) : ∃ y, l[j]? = some y ∧ (l.take i).drop j = y :: (l.take i).drop (j + 1) := by
  have hl : j < (l.take i).length := by rw [List.length_take]; omega
  obtain ⟨y, hy, hd⟩ := at_list hl
  refine ⟨y, ?_, hd⟩
  rw [List.getElem?_take_of_lt hj] at hy
  exact hy
theorem at_take_end {α : Type} {l : List α} {i j : Nat} (hj : ¬ j < i) : (l.take i).drop j = [] := List.drop_eq_nil_of_le (by rw [List.length_take]; omega)

theorem p31 (l : List Prc) (h : Small l) : PPure Try.prog 31 [.list .any (l.map encP)] (.tup [.int .i64 (itfBad l).1, .int .i64 (itfBad l).2]) := by
  have hl := h.1
  (refine ppure_of_T ok31 (by simp only [List.length_cons, List.length_nil]; decide) ?_; refine t_seq ?_)
  (have hNE := True.intro; have hC := True.intro; repeat' first
    | with_reducible refine k_seq ?_
    | with_reducible refine t_seq ?_
    | with_reducible refine t_reg ?_
    | with_reducible refine t_nil ?_
    | with_reducible refine t_skip ?_
    | with_reducible refine t_ret ?_
    | with_reducible refine k_seq_ret ?_
    | with_reducible refine t_block ?_
    | ((with_reducible apply t_val); exact rfl; (intro _ _ _ h; cases h); (focus (simp only [go_sem, hNE]; first | done | exact rfl)))
    | ((with_reducible apply t_cond); (focus (simp only [go_sem, hNE]; first | done | exact rfl)))
    | (with_reducible intro hc; have hC := And.intro hC hc))
  · all_goals (apply pend rs31; (focus (simp only [go_sem, itfBad, *]; first | done | exact rfl)); (focus (simp only [go_sem, itfBad, *]; first | done | exact rfl | simp_all)))
  · rw [show itfBad l = firstBad (prcBad l) l 0 by simp only [itfBad, hc]; rfl]
    refine t_loop (fun k s => ∃ i : Nat, i + k = l.length ∧ firstBad (prcBad l) (l.drop i) i = firstBad (prcBad l) l 0 ∧ s.env 0 = .list .any (l.map encP) ∧ s.env 4 = .int .i64 i) l.length ?_ ?_
    · exact ⟨0, by omega, rfl, by simp only [go_sem], by simp only [go_sem]⟩
    · rintro k s ⟨i, hk, hr, h0, h4⟩
      by_cases hi : i < l.length
      · obtain ⟨x, hx, hd⟩ := at_list hi
        have hlt := lt_int hi
        have hw := wrap_next hi hl
        have hle := Int.le_of_lt hlt
        rw [hd] at hr
        have hxs := h.at hx
        (have hNE := True.intro; have hC := True.intro; repeat' first
    | with_reducible refine k_seq ?_
    | with_reducible refine t_seq ?_
    | with_reducible refine t_reg ?_
    | with_reducible refine t_nil ?_
    | with_reducible refine t_skip ?_
    | with_reducible refine t_ret ?_
    | with_reducible refine k_seq_ret ?_
    | with_reducible refine k_blk_ret ?_
    | with_reducible refine k_inv_ret ?_
    | with_reducible refine t_block ?_
    | ((with_reducible apply t_val); exact rfl; (intro _ _ _ h; cases h); (focus (simp only [go_sem, hNE, h0, h4, hlt, hle, hx, hw, encP]; first | done | exact rfl)))
    | ((with_reducible apply t_callS); (focus (simp only [go_sem, hNE, h0, h4, hlt, hle, hx, hw, encP]; first | done | exact rfl)); (focus (simp only [go_sem, hNE, h0, h4, hlt, hle, hx, hw, encP]; first | done | exact rfl)); (focus (simp only [go_sem, hNE, h0, h4, hlt, hle, hx, hw, encP]; first | done | exact rfl)); (first | exact p37 x hxs))
    | ((with_reducible apply t_cond); (focus (simp only [go_sem, hNE, h0, h4, hlt, hle, hx, hw, encP]; first | done | exact rfl)))
    | (with_reducible intro hc; with_reducible exact Bool.noConfusion hc)
    | (with_reducible intro hc; have hC := And.intro hC hc))
        · have hp : ¬ prcErr x = 0 := by simpa using hc
          have hb : prcBad l i x = prcErr x := by simp [prcBad, orE, hp]
          rw [← hr, firstBad, if_neg (by rw [hb]; exact hp), hb]
          all_goals (apply pend rs31; (focus (simp only [go_sem, h0, h4, hx, *]; first | done | exact rfl)); (focus (simp only [go_sem, h0, h4, hx, *]; first | done | exact rfl | simp_all)))
        · have hp : prcErr x = 0 := by simpa using hc
          refine t_loop (fun k2 s => ∃ j : Nat, j + k2 = i ∧ idx (fun q : Prc => q.name == x.name) ((l.take i).drop j) j = idx (fun q : Prc => q.name == x.name) (l.take i) 0 ∧ s.env 0 = .list .any (l.map encP) ∧ s.env 4 = .int .i64 i ∧ s.env 6 = .int .i64 j) i ?_ ?_
          · exact ⟨0, by omega, rfl, by simp only [go_sem, h0], by simp only [go_sem, h4], by simp only [go_sem]⟩
          · rintro k2 s2 ⟨j, hk2, hr2, g0, g4, g6⟩
            by_cases hj : j < i
            · obtain ⟨y, hy, hyd⟩ := at_take hj (Nat.le_of_lt hi)
              have hjl := lt_int hj
              have hjl2 : (j : Int) < (l.length : Int) := by omega
              have hw2 := wrap_next hj (Nat.le_of_lt (Nat.lt_of_lt_of_le hi hl))
              rw [hyd] at hr2
              (have hNE := True.intro; have hC := True.intro; repeat' first
    | with_reducible refine k_seq ?_
    | with_reducible refine t_seq ?_
    | with_reducible refine t_reg ?_
    | with_reducible refine t_nil ?_
    | with_reducible refine t_skip ?_
    | with_reducible refine t_ret ?_
    | with_reducible refine k_seq_ret ?_
    | with_reducible refine k_blk_ret ?_
    | with_reducible refine k_blk ?_
    | with_reducible refine k_inv_ret ?_
    | with_reducible refine t_block ?_
    | with_reducible refine t_drwE (by decide +kernel) ?_
    | with_reducible refine m_nil ?_
    | ((with_reducible apply t_val); exact rfl; (intro _ _ _ h; cases h); (focus (simp only [go_sem, hNE, g0, g4, g6, hjl, hjl2, hlt, hle, hx, hy, hw, hw2, encP]; first | done | exact rfl)))
    | ((with_reducible apply m_val); exact rfl; exact rfl; (intro _ _ _ h; cases h); (focus (simp only [go_sem, hNE, g0, g4, g6, hjl, hjl2, hlt, hle, hx, hy, hw, hw2, encP]; first | done | exact rfl)))
    | ((with_reducible apply t_cond); (focus (simp only [go_sem, hNE, g0, g4, g6, hjl, hjl2, hlt, hle, hx, hy, hw, hw2, encP]; first | done | exact rfl)))
    | (with_reducible intro hc; with_reducible exact Bool.noConfusion hc)
    | (with_reducible intro hc; have hC := And.intro hC hc))
              · have hix : idx (fun q : Prc => q.name == x.name) (l.take i) 0 = (j : Int) := by rw [← hr2]; simp only [idx, hc, if_true]
                have hb : prcBad l i x = 5 := by unfold prcBad; rw [hix, hp]; simp [orE, broken]
                rw [← hr, firstBad, if_neg (by rw [hb]; decide), hb]
                all_goals (apply pend rs31; (focus (simp only [go_sem, g0, g4, g6, *]; first | done | exact rfl)); (focus (simp only [go_sem, g0, g4, g6, *]; first | done | exact rfl | simp_all)))
              · refine k_inv (k2 - 1) (by omega) ⟨j + 1, by omega, ?_, by simp only [go_sem, g0], by simp only [go_sem, g4], by simp only [go_sem, g6, hw2]⟩
                rw [← hr2]; simp only [idx, hc, Bool.false_eq_true, if_false]; rfl
            · have hjl : ((j : Int) < (i : Int)) = False := nlt_int hj
              rw [at_take_end hj] at hr2
              (have hNE := True.intro; have hC := True.intro; repeat' first
    | with_reducible refine k_seq ?_
    | with_reducible refine t_seq ?_
    | with_reducible refine t_reg ?_
    | with_reducible refine t_nil ?_
    | with_reducible refine t_exit ?_
    | with_reducible refine k_seq_exit ?_
    | with_reducible refine k_blk_exit ?_
    | with_reducible refine k_blk ?_
    | with_reducible refine k_inv_exit ?_
    | ((with_reducible apply t_val); exact rfl; (intro _ _ _ h; cases h); (focus (simp only [go_sem, hNE, g0, g4, g6, hjl, hlt, hle, hx, hw, encP]; first | done | exact rfl)))
    | ((with_reducible apply t_cond); (focus (simp only [go_sem, hNE, g0, g4, g6, hjl, hlt, hle, hx, hw, encP]; first | done | exact rfl)))
    | (with_reducible intro hc; with_reducible exact Bool.noConfusion hc)
    | (with_reducible intro hc; have hC := And.intro hC hc))
              refine k_inv (k - 1) (by omega) ⟨i + 1, by omega, ?_, by simp only [go_sem, g0], by simp only [go_sem, g4, hw]⟩
              have hb : prcBad l i x = 0 := by unfold prcBad; rw [← hr2, hp]; simp [orE, broken, idx]
              rw [← hr, firstBad, if_pos hb]
      · have hlt := nlt_int hi
        rw [at_end hi] at hr
        (have hNE := True.intro; have hC := True.intro; repeat' first
    | with_reducible refine k_seq ?_
    | with_reducible refine t_seq ?_
    | with_reducible refine t_reg ?_
    | with_reducible refine t_nil ?_
    | with_reducible refine t_ret ?_
    | with_reducible refine t_exit ?_
    | with_reducible refine k_seq_exit ?_
    | with_reducible refine k_blk_exit ?_
    | with_reducible refine k_inv_exit ?_
    | ((with_reducible apply t_val); exact rfl; (intro _ _ _ h; cases h); (focus (simp only [go_sem, hNE, h0, h4, hlt]; first | done | exact rfl)))
    | ((with_reducible apply t_cond); (focus (simp only [go_sem, hNE, h0, h4, hlt]; first | done | exact rfl)))
    | (with_reducible intro hc; with_reducible exact Bool.noConfusion hc)
    | (with_reducible intro hc; have hC := And.intro hC hc))
        rw [← hr]
        all_goals (apply pend rs31; (focus (simp only [go_sem, firstBad, *]; first | done | exact rfl)); (focus (simp only [go_sem, firstBad, *]; first | done | exact rfl | simp_all)))
theorem p19 (l : List Prc) (h : Small l) : PPure Try.prog 19 [.list .any (l.map encP)] (.int .i64 (itfErr l)) := by
  (refine ppure_of_T ok19 (by simp only [List.length_cons, List.length_nil]; decide) ?_; refine t_seq ?_)
  (have hNE := True.intro; have hC := True.intro; repeat' first
    | with_reducible refine k_seq ?_
    | with_reducible refine t_seq ?_
    | with_reducible refine t_reg ?_
    | with_reducible refine t_nil ?_
    | with_reducible refine t_ret ?_
    | ((with_reducible apply t_val); exact rfl; (intro _ _ _ h; cases h); (focus (simp only [go_sem, hNE]; first | done | exact rfl)))
    | ((with_reducible apply t_callS); (focus (simp only [go_sem, hNE]; first | done | exact rfl)); (focus (simp only [go_sem, hNE]; first | done | exact rfl)); (focus (simp only [go_sem, hNE]; first | done | exact rfl)); (first | exact p31 l h)))
  all_goals (apply pend rs19; (focus (simp only [go_sem, itfErr, *]; first | done | exact rfl)); (focus (simp only [go_sem, itfErr, *]; first | done | exact rfl | simp_all)))
end Go.Proofs.Ytloecggdboingaa
namespace Go.Proofs.Ytloecggdboingaa
open Go.RowKit Go.Proofs
set_option linter.unusedVariables false
set_option linter.unusedSimpArgs false
attribute [local irreducible] PPure

theorem t_once {P : Program} {s : St} {c : Code} {Q : X → St → Prop} (h : T P c s (Kinv (fun _ _ => False) 0 Q)) : T P (.loop c) s Q :=
  t_loop (fun _ s' => s' = s) 0 rfl (fun k s' e => by
    rw [e]
    refine T_mono c s _ _ (fun x s'' hx => ?_) h
    cases x with
    | normal => obtain ⟨_, _, hf⟩ := hx; exact hf.elim
    | exit id => exact hx
    | ret => exact hx)
theorem idx_no {α : Type} {g : α → Bool} (hg : ∀ x, g x = false) : ∀ (l : List α) (j : Int), idx g l j = -1
  | [], _ => rfl
  | x :: r, j => by unfold idx; rw [hg x]; simp only [Bool.false_eq_true, if_false]; exact idx_no hg r _

set_option maxHeartbeats 2000000 in
theorem p32 (c : List Act) (hl : c.length ≤ 1000) : PPure Try.prog 32 [.list .any (c.map encA)] (.tup [.int .i64 (callBad c).1, .int .i64 (callBad c).2]) := by
  (refine ppure_of_T ok32 (by simp only [List.length_cons, List.length_nil]; decide) ?_; refine t_seq ?_)
  (have hNE := True.intro; have hC := True.intro; repeat' first
    | with_reducible refine k_seq ?_
    | with_reducible refine t_seq ?_
    | with_reducible refine t_reg ?_
    | with_reducible refine t_nil ?_
    | with_reducible refine t_skip ?_
    | with_reducible refine t_ret ?_
    | with_reducible refine k_seq_ret ?_
    | with_reducible refine t_block ?_
    | ((with_reducible apply t_val); exact rfl; (intro _ _ _ h; cases h); (focus (simp only [go_sem, hNE]; first | done | exact rfl)))
    | ((with_reducible apply t_cond); (focus (simp only [go_sem, hNE]; first | done | exact rfl)))
    | (with_reducible intro hc; have hC := And.intro hC hc))
  · all_goals (apply pend rs32; (focus (simp only [go_sem, callBad, *]; first | done | exact rfl)); (focus (simp only [go_sem, callBad, *]; first | done | exact rfl | simp_all)))
  · rw [show callBad c = firstBad (actBad c) c 0 by simp only [callBad, hc]; rfl]
    refine t_loop (fun k s => ∃ i : Nat, i + k = c.length ∧ firstBad (actBad c) (c.drop i) i = firstBad (actBad c) c 0 ∧ s.env 0 = .list .any (c.map encA) ∧ s.env 4 = .int .i64 i) c.length ?_ ?_
    · exact ⟨0, by omega, rfl, by simp only [go_sem], by simp only [go_sem]⟩
    · rintro k s ⟨i, hk, hr, h0, h4⟩
      by_cases hi : i < c.length
      · obtain ⟨x, hx, hd⟩ := at_list hi
        have hlt := lt_int hi
        have hw := wrap_next hi hl
        have hle := Int.le_of_lt hlt
        rw [hd] at hr
        by_cases hp : featErr x.f = 0
        · cases he : (x.kw == []) with
          | true =>
            have ha : actBad c i x = broken [(!decide (0 ≤ idx (fun y : Act => !(y.kw == [])) (c.take i) 0), 9)] := by
              unfold actBad
              rw [he, hp, idx_no (g := fun y : Act => !true && (y.kw == x.kw)) (fun y => rfl)]
              simp [broken, orE]
            (have hNE := True.intro; have hC := True.intro; repeat' first
    | with_reducible refine k_seq ?_
    | with_reducible refine t_seq ?_
    | with_reducible refine t_reg ?_
    | with_reducible refine t_nil ?_
    | with_reducible refine t_skip ?_
    | with_reducible refine t_block ?_
    | ((with_reducible apply t_val); exact rfl; (intro _ _ _ h; cases h); (focus (simp only [go_sem, hNE, h0, h4, hlt, hle, hx, hw, he, hp, encA]; first | done | exact rfl)))
    | ((with_reducible apply t_callS); (focus (simp only [go_sem, hNE, h0, h4, hlt, hle, hx, hw, he, hp, encA]; first | done | exact rfl)); (focus (simp only [go_sem, hNE, h0, h4, hlt, hle, hx, hw, he, hp, encA]; first | done | exact rfl)); (focus (simp only [go_sem, hNE, h0, h4, hlt, hle, hx, hw, he, hp, encA]; first | done | exact rfl)); (first | exact p75f x.f | exact p76 x.kw))
    | ((with_reducible apply t_gval); exact rfl; (focus (simp only [go_sem, hNE, h0, h4, hlt, hle, hx, hw, he, hp, encA]; first | done | exact rfl)); exact rfl; (intro _ _ _ h; cases h); (focus (intro hG; simp only [go_sem, hNE, h0, h4, hlt, hle, hx, hw, he, hp, encA, hG]; first | done | exact rfl)))
    | ((with_reducible apply t_gno); exact rfl; (focus (simp only [go_sem, hNE, h0, h4, hlt, hle, hx, hw, he, hp, encA]; first | done | exact rfl)); exact rfl)
    | ((with_reducible apply t_cond); (focus (simp only [go_sem, hNE, h0, h4, hlt, hle, hx, hw, he, hp, encA]; first | done | exact rfl)))
    | (with_reducible intro hc; with_reducible exact Bool.noConfusion hc)
    | (with_reducible intro hc; have hC := And.intro hC hc))
            refine t_loop (fun k2 s => ∃ j : Nat, j + k2 = i ∧ idx (fun y : Act => !(y.kw == [])) ((c.take i).drop j) j = idx (fun y : Act => !(y.kw == [])) (c.take i) 0 ∧ s.env 0 = .list .any (c.map encA) ∧ s.env 4 = .int .i64 i ∧ s.env 6 = .int .i64 j) i ?_ ?_
            · exact ⟨0, by omega, rfl, by simp only [go_sem, h0], by simp only [go_sem, h4], by simp only [go_sem]⟩
            · rintro k2 s2 ⟨j, hk2, hr2, g0, g4, g6⟩
              by_cases hj : j < i
              · obtain ⟨y, hy, hyd⟩ := at_take hj (Nat.le_of_lt hi)
                have hjl := lt_int hj
                have hjl2 : (j : Int) < (c.length : Int) := by omega
                have hw2 := wrap_next hj (Nat.le_of_lt (Nat.lt_of_lt_of_le hi hl))
                rw [hyd] at hr2
                (have hNE := True.intro; have hC := True.intro; repeat' first
    | with_reducible refine k_seq ?_
    | with_reducible refine t_seq ?_
    | with_reducible refine t_reg ?_
    | with_reducible refine t_nil ?_
    | with_reducible refine t_skip ?_
    | with_reducible refine t_ret ?_
    | with_reducible refine k_seq_ret ?_
    | with_reducible refine k_blk_ret ?_
    | with_reducible refine k_blk ?_
    | with_reducible refine k_inv_ret ?_
    | with_reducible refine t_block ?_
    | ((with_reducible apply t_val); exact rfl; (intro _ _ _ h; cases h); (focus (simp only [go_sem, hNE, g0, g4, g6, hjl, hjl2, hlt, hle, hx, hy, hw, hw2, he, encA]; first | done | exact rfl)))
    | ((with_reducible apply t_gval); exact rfl; (focus (simp only [go_sem, hNE, g0, g4, g6, hjl, hjl2, hlt, hle, hx, hy, hw, hw2, he, encA]; first | done | exact rfl)); exact rfl; (intro _ _ _ h; cases h); (focus (intro hG; simp only [go_sem, hNE, g0, g4, g6, hjl, hjl2, hlt, hle, hx, hy, hw, hw2, he, encA, hG]; first | done | exact rfl)))
    | ((with_reducible apply t_cond); (focus (simp only [go_sem, hNE, g0, g4, g6, hjl, hjl2, hlt, hle, hx, hy, hw, hw2, he, encA]; first | done | exact rfl)))
    | (with_reducible intro hc; with_reducible exact Bool.noConfusion hc)
    | (with_reducible intro hc; have hC := And.intro hC hc))
                · have hix : idx (fun y : Act => !(y.kw == [])) (c.take i) 0 = (j : Int) := by rw [← hr2]; simp only [idx, hc, if_true]
                  have hb : actBad c i x = 9 := by rw [ha, hix]; simp [broken]
                  rw [← hr, firstBad, if_neg (by rw [hb]; decide), hb]
                  all_goals (apply pend rs32; (focus (simp only [go_sem, g0, g4, g6, *]; first | done | exact rfl)); (focus (simp only [go_sem, g0, g4, g6, *]; first | done | exact rfl | simp_all)))
                · refine k_inv (k2 - 1) (by omega) ⟨j + 1, by omega, ?_, by simp only [go_sem, g0], by simp only [go_sem, g4], by simp only [go_sem, g6, hw2]⟩
                  rw [← hr2]; simp only [idx, hc, Bool.false_eq_true, if_false]; rfl
              · have hjl : ((j : Int) < (i : Int)) = False := nlt_int hj
                rw [at_take_end hj] at hr2
                (have hNE := True.intro; have hC := True.intro; repeat' first
    | with_reducible refine k_seq ?_
    | with_reducible refine t_seq ?_
    | with_reducible refine t_reg ?_
    | with_reducible refine t_nil ?_
    | with_reducible refine t_exit ?_
    | with_reducible refine k_seq_exit ?_
    | with_reducible refine k_blk_exit ?_
    | with_reducible refine k_inv_exit ?_
    | with_reducible refine t_block ?_
    | ((with_reducible apply t_val); exact rfl; (intro _ _ _ h; cases h); (focus (simp only [go_sem, hNE, g0, g4, g6, hjl, hlt, hle, hx, hw, he, encA]; first | done | exact rfl)))
    | ((with_reducible apply t_gval); exact rfl; (focus (simp only [go_sem, hNE, g0, g4, g6, hjl, hlt, hle, hx, hw, he, encA]; first | done | exact rfl)); exact rfl; (intro _ _ _ h; cases h); (focus (intro hG; simp only [go_sem, hNE, g0, g4, g6, hjl, hlt, hle, hx, hw, he, encA, hG]; first | done | exact rfl)))
    | ((with_reducible apply t_gno); exact rfl; (focus (simp only [go_sem, hNE, g0, g4, g6, hjl, hlt, hle, hx, hw, he, encA]; first | done | exact rfl)); exact rfl)
    | ((with_reducible apply t_cond); (focus (simp only [go_sem, hNE, g0, g4, g6, hjl, hlt, hle, hx, hw, he, encA]; first | done | exact rfl)))
    | (with_reducible intro hc; with_reducible exact Bool.noConfusion hc)
    | (with_reducible intro hc; have hC := And.intro hC hc))
                refine t_once ?_
                have hb : actBad c i x = 0 := by rw [ha, ← hr2]; simp [broken, idx]
                cases hz : decide ((0 : Int) < (i : Int)) with
                | true =>
                  (have hNE := True.intro; have hC := True.intro; repeat' first
    | with_reducible refine k_seq ?_
    | with_reducible refine t_seq ?_
    | with_reducible refine t_reg ?_
    | with_reducible refine t_nil ?_
    | with_reducible refine t_exit ?_
    | with_reducible refine k_seq_exit ?_
    | with_reducible refine k_blk_exit ?_
    | with_reducible refine k_blk ?_
    | with_reducible refine k_inv_exit ?_
    | ((with_reducible apply t_val); exact rfl; (intro _ _ _ h; cases h); (focus (simp only [go_sem, hNE, g0, g4, g6, hjl, hlt, hle, hx, hw, he, hz, encA]; first | done | exact rfl)))
    | ((with_reducible apply t_gval); exact rfl; (focus (simp only [go_sem, hNE, g0, g4, g6, hjl, hlt, hle, hx, hw, he, hz, encA]; first | done | exact rfl)); exact rfl; (intro _ _ _ h; cases h); (focus (intro hG; simp only [go_sem, hNE, g0, g4, g6, hjl, hlt, hle, hx, hw, he, hz, encA, hG]; first | done | exact rfl)))
    | ((with_reducible apply t_cond); (focus (simp only [go_sem, hNE, g0, g4, g6, hjl, hlt, hle, hx, hw, he, hz, encA]; first | done | exact rfl)))
    | (with_reducible intro hc; with_reducible exact Bool.noConfusion hc)
    | (with_reducible intro hc; have hC := And.intro hC hc))
                  refine k_inv (k - 1) (by omega) ⟨i + 1, by omega, ?_, by simp only [go_sem, g0], by simp only [go_sem, g4, hw]⟩
                  rw [← hr, firstBad, if_pos hb]
                | false =>
                  (have hNE := True.intro; have hC := True.intro; repeat' first
    | with_reducible refine k_seq ?_
    | with_reducible refine t_seq ?_
    | with_reducible refine t_reg ?_
    | with_reducible refine t_nil ?_
    | with_reducible refine t_exit ?_
    | with_reducible refine k_seq_exit ?_
    | with_reducible refine k_blk_exit ?_
    | with_reducible refine k_blk ?_
    | with_reducible refine k_inv_exit ?_
    | ((with_reducible apply t_val); exact rfl; (intro _ _ _ h; cases h); (focus (simp only [go_sem, hNE, g0, g4, g6, hjl, hlt, hle, hx, hw, he, hz, encA]; first | done | exact rfl)))
    | ((with_reducible apply t_gval); exact rfl; (focus (simp only [go_sem, hNE, g0, g4, g6, hjl, hlt, hle, hx, hw, he, hz, encA]; first | done | exact rfl)); exact rfl; (intro _ _ _ h; cases h); (focus (intro hG; simp only [go_sem, hNE, g0, g4, g6, hjl, hlt, hle, hx, hw, he, hz, encA, hG]; first | done | exact rfl)))
    | ((with_reducible apply t_gno); exact rfl; (focus (simp only [go_sem, hNE, g0, g4, g6, hjl, hlt, hle, hx, hw, he, hz, encA]; first | done | exact rfl)); exact rfl)
    | ((with_reducible apply t_cond); (focus (simp only [go_sem, hNE, g0, g4, g6, hjl, hlt, hle, hx, hw, he, hz, encA]; first | done | exact rfl)))
    | (with_reducible intro hc; with_reducible exact Bool.noConfusion hc)
    | (with_reducible intro hc; have hC := And.intro hC hc))
                  refine k_inv (k - 1) (by omega) ⟨i + 1, by omega, ?_, by simp only [go_sem, g0], by simp only [go_sem, g4, hw]⟩
                  rw [← hr, firstBad, if_pos hb]
          | false =>
            have ha : actBad c i x = broken [(isCap x.kw, 4), (!decide (0 ≤ idx (fun y : Act => (y.kw == x.kw)) (c.take i) 0), 23)] := by
              unfold actBad
              rw [he, hp]
              simp only [broken, orE, Bool.false_or, Bool.not_false, Bool.true_or, Bool.true_and, if_true]
              split <;> simp_all
            cases hcap : isCap x.kw with
            | false =>
              have hb : actBad c i x = 4 := by rw [ha, hcap]; simp [broken]
              (have hNE := True.intro; have hC := True.intro; repeat' first
    | with_reducible refine k_seq ?_
    | with_reducible refine t_seq ?_
    | with_reducible refine t_reg ?_
    | with_reducible refine t_nil ?_
    | with_reducible refine t_skip ?_
    | with_reducible refine t_ret ?_
    | with_reducible refine k_seq_ret ?_
    | with_reducible refine k_blk_ret ?_
    | with_reducible refine k_inv_ret ?_
    | with_reducible refine t_block ?_
    | ((with_reducible apply t_val); exact rfl; (intro _ _ _ h; cases h); (focus (simp only [go_sem, hNE, h0, h4, hlt, hle, hx, hw, he, hp, hcap, encA]; first | done | exact rfl)))
    | ((with_reducible apply t_callS); (focus (simp only [go_sem, hNE, h0, h4, hlt, hle, hx, hw, he, hp, hcap, encA]; first | done | exact rfl)); (focus (simp only [go_sem, hNE, h0, h4, hlt, hle, hx, hw, he, hp, hcap, encA]; first | done | exact rfl)); (focus (simp only [go_sem, hNE, h0, h4, hlt, hle, hx, hw, he, hp, hcap, encA]; first | done | exact rfl)); (first | exact p75f x.f | exact p76 x.kw))
    | ((with_reducible apply t_gval); exact rfl; (focus (simp only [go_sem, hNE, h0, h4, hlt, hle, hx, hw, he, hp, hcap, encA]; first | done | exact rfl)); exact rfl; (intro _ _ _ h; cases h); (focus (intro hG; simp only [go_sem, hNE, h0, h4, hlt, hle, hx, hw, he, hp, hcap, encA, hG]; first | done | exact rfl)))
    | ((with_reducible apply t_gcallS); exact rfl; (focus (simp only [go_sem, hNE, h0, h4, hlt, hle, hx, hw, he, hp, hcap, encA]; first | done | exact rfl)); (focus (simp only [go_sem, hNE, h0, h4, hlt, hle, hx, hw, he, hp, hcap, encA]; first | done | exact rfl)); (focus (intro hG; simp only [go_sem, hNE, h0, h4, hlt, hle, hx, hw, he, hp, hcap, encA, hG]; first | done | exact rfl)); (focus (simp only [go_sem, hNE, h0, h4, hlt, hle, hx, hw, he, hp, hcap, encA]; done)); (intro hG; first | exact p75f x.f | exact p76 x.kw))
    | ((with_reducible apply t_cond); (focus (simp only [go_sem, hNE, h0, h4, hlt, hle, hx, hw, he, hp, hcap, encA]; first | done | exact rfl)))
    | (with_reducible intro hc; with_reducible exact Bool.noConfusion hc)
    | (with_reducible intro hc; have hC := And.intro hC hc))
              rw [← hr, firstBad, if_neg (by rw [hb]; decide), hb]
              all_goals (apply pend rs32; (focus (simp only [go_sem, h0, h4, *]; first | done | exact rfl)); (focus (simp only [go_sem, h0, h4, *]; first | done | exact rfl | simp_all)))
            | true =>
              (have hNE := True.intro; have hC := True.intro; repeat' first
    | with_reducible refine k_seq ?_
    | with_reducible refine t_seq ?_
    | with_reducible refine t_reg ?_
    | with_reducible refine t_nil ?_
    | with_reducible refine t_skip ?_
    | with_reducible refine t_block ?_
    | ((with_reducible apply t_val); exact rfl; (intro _ _ _ h; cases h); (focus (simp only [go_sem, hNE, h0, h4, hlt, hle, hx, hw, he, hp, hcap, encA]; first | done | exact rfl)))
    | ((with_reducible apply t_callS); (focus (simp only [go_sem, hNE, h0, h4, hlt, hle, hx, hw, he, hp, hcap, encA]; first | done | exact rfl)); (focus (simp only [go_sem, hNE, h0, h4, hlt, hle, hx, hw, he, hp, hcap, encA]; first | done | exact rfl)); (focus (simp only [go_sem, hNE, h0, h4, hlt, hle, hx, hw, he, hp, hcap, encA]; first | done | exact rfl)); (first | exact p75f x.f | exact p76 x.kw))
    | ((with_reducible apply t_gval); exact rfl; (focus (simp only [go_sem, hNE, h0, h4, hlt, hle, hx, hw, he, hp, hcap, encA]; first | done | exact rfl)); exact rfl; (intro _ _ _ h; cases h); (focus (intro hG; simp only [go_sem, hNE, h0, h4, hlt, hle, hx, hw, he, hp, hcap, encA, hG]; first | done | exact rfl)))
    | ((with_reducible apply t_gcallS); exact rfl; (focus (simp only [go_sem, hNE, h0, h4, hlt, hle, hx, hw, he, hp, hcap, encA]; first | done | exact rfl)); (focus (simp only [go_sem, hNE, h0, h4, hlt, hle, hx, hw, he, hp, hcap, encA]; first | done | exact rfl)); (focus (intro hG; simp only [go_sem, hNE, h0, h4, hlt, hle, hx, hw, he, hp, hcap, encA, hG]; first | done | exact rfl)); (focus (simp only [go_sem, hNE, h0, h4, hlt, hle, hx, hw, he, hp, hcap, encA]; done)); (intro hG; first | exact p75f x.f | exact p76 x.kw))
    | ((with_reducible apply t_cond); (focus (simp only [go_sem, hNE, h0, h4, hlt, hle, hx, hw, he, hp, hcap, encA]; first | done | exact rfl)))
    | (with_reducible intro hc; with_reducible exact Bool.noConfusion hc)
    | (with_reducible intro hc; have hC := And.intro hC hc))
              refine t_once ?_
              cases hz : decide ((0 : Int) < (i : Int)) with
              | true =>
                (have hNE := True.intro; have hC := True.intro; repeat' first
    | with_reducible refine k_seq ?_
    | with_reducible refine t_seq ?_
    | with_reducible refine t_reg ?_
    | with_reducible refine t_nil ?_
    | with_reducible refine t_exit ?_
    | with_reducible refine k_seq_exit ?_
    | with_reducible refine k_blk_exit ?_
    | with_reducible refine k_inv_exit ?_
    | with_reducible refine t_block ?_
    | ((with_reducible apply t_val); exact rfl; (intro _ _ _ h; cases h); (focus (simp only [go_sem, hNE, h0, h4, hlt, hle, hx, hw, he, hz, encA]; first | done | exact rfl)))
    | ((with_reducible apply t_gval); exact rfl; (focus (simp only [go_sem, hNE, h0, h4, hlt, hle, hx, hw, he, hz, encA]; first | done | exact rfl)); exact rfl; (intro _ _ _ h; cases h); (focus (intro hG; simp only [go_sem, hNE, h0, h4, hlt, hle, hx, hw, he, hz, encA, hG]; first | done | exact rfl)))
    | ((with_reducible apply t_cond); (focus (simp only [go_sem, hNE, h0, h4, hlt, hle, hx, hw, he, hz, encA]; first | done | exact rfl)))
    | (with_reducible intro hc; with_reducible exact Bool.noConfusion hc)
    | (with_reducible intro hc; have hC := And.intro hC hc))
                refine t_loop (fun k2 s => ∃ j : Nat, j + k2 = i ∧ idx (fun y : Act => (y.kw == x.kw)) ((c.take i).drop j) j = idx (fun y : Act => (y.kw == x.kw)) (c.take i) 0 ∧ s.env 0 = .list .any (c.map encA) ∧ s.env 4 = .int .i64 i ∧ s.env 7 = .int .i64 j) i ?_ ?_
                · exact ⟨0, by omega, rfl, by simp only [go_sem, h0], by simp only [go_sem, h4], by simp only [go_sem]⟩
                · rintro k2 s2 ⟨j, hk2, hr2, g0, g4, g6⟩
                  by_cases hj : j < i
                  · obtain ⟨y, hy, hyd⟩ := at_take hj (Nat.le_of_lt hi)
                    have hjl := lt_int hj
                    have hjl2 : (j : Int) < (c.length : Int) := by omega
                    have hw2 := wrap_next hj (Nat.le_of_lt (Nat.lt_of_lt_of_le hi hl))
                    rw [hyd] at hr2
                    (have hNE := True.intro; have hC := True.intro; repeat' first
    | with_reducible refine k_seq ?_
    | with_reducible refine t_seq ?_
    | with_reducible refine t_reg ?_
    | with_reducible refine t_nil ?_
    | with_reducible refine t_skip ?_
    | with_reducible refine t_ret ?_
    | with_reducible refine k_seq_ret ?_
    | with_reducible refine k_blk_ret ?_
    | with_reducible refine k_blk ?_
    | with_reducible refine k_inv_ret ?_
    | with_reducible refine t_block ?_
    | with_reducible refine t_drwE (by decide +kernel) ?_
    | with_reducible refine m_nil ?_
    | ((with_reducible apply t_val); exact rfl; (intro _ _ _ h; cases h); (focus (simp only [go_sem, hNE, g0, g4, g6, hjl, hjl2, hlt, hle, hx, hy, hw, hw2, he, encA]; first | done | exact rfl)))
    | ((with_reducible apply t_gval); exact rfl; (focus (simp only [go_sem, hNE, g0, g4, g6, hjl, hjl2, hlt, hle, hx, hy, hw, hw2, he, encA]; first | done | exact rfl)); exact rfl; (intro _ _ _ h; cases h); (focus (intro hG; simp only [go_sem, hNE, g0, g4, g6, hjl, hjl2, hlt, hle, hx, hy, hw, hw2, he, encA, hG]; first | done | exact rfl)))
    | ((with_reducible apply m_val); exact rfl; exact rfl; (intro _ _ _ h; cases h); (focus (simp only [go_sem, hNE, g0, g4, g6, hjl, hjl2, hlt, hle, hx, hy, hw, hw2, he, encA]; first | done | exact rfl)))
    | ((with_reducible apply t_cond); (focus (simp only [go_sem, hNE, g0, g4, g6, hjl, hjl2, hlt, hle, hx, hy, hw, hw2, he, encA]; first | done | exact rfl)))
    | (with_reducible intro hc; with_reducible exact Bool.noConfusion hc)
    | (with_reducible intro hc; have hC := And.intro hC hc))
                    · have hix : idx (fun y : Act => (y.kw == x.kw)) (c.take i) 0 = (j : Int) := by rw [← hr2]; simp only [idx, hc, if_true]
                      have hb : actBad c i x = 23 := by rw [ha, hix, hcap]; simp [broken]
                      rw [← hr, firstBad, if_neg (by rw [hb]; decide), hb]
                      all_goals (apply pend rs32; (focus (simp only [go_sem, g0, g4, g6, *]; first | done | exact rfl)); (focus (simp only [go_sem, g0, g4, g6, *]; first | done | exact rfl | simp_all)))
                    · refine k_inv (k2 - 1) (by omega) ⟨j + 1, by omega, ?_, by simp only [go_sem, g0], by simp only [go_sem, g4], by simp only [go_sem, g6, hw2]⟩
                      rw [← hr2]; simp only [idx, hc, Bool.false_eq_true, if_false]; rfl
                  · have hjl : ((j : Int) < (i : Int)) = False := nlt_int hj
                    rw [at_take_end hj] at hr2
                    (have hNE := True.intro; have hC := True.intro; repeat' first
    | with_reducible refine k_seq ?_
    | with_reducible refine t_seq ?_
    | with_reducible refine t_reg ?_
    | with_reducible refine t_nil ?_
    | with_reducible refine t_exit ?_
    | with_reducible refine k_seq_exit ?_
    | with_reducible refine k_blk_exit ?_
    | with_reducible refine k_blk ?_
    | with_reducible refine k_inv_exit ?_
    | ((with_reducible apply t_val); exact rfl; (intro _ _ _ h; cases h); (focus (simp only [go_sem, hNE, g0, g4, g6, hjl, hlt, hle, hx, hw, he, encA]; first | done | exact rfl)))
    | ((with_reducible apply t_gval); exact rfl; (focus (simp only [go_sem, hNE, g0, g4, g6, hjl, hlt, hle, hx, hw, he, encA]; first | done | exact rfl)); exact rfl; (intro _ _ _ h; cases h); (focus (intro hG; simp only [go_sem, hNE, g0, g4, g6, hjl, hlt, hle, hx, hw, he, encA, hG]; first | done | exact rfl)))
    | ((with_reducible apply t_gno); exact rfl; (focus (simp only [go_sem, hNE, g0, g4, g6, hjl, hlt, hle, hx, hw, he, encA]; first | done | exact rfl)); exact rfl)
    | ((with_reducible apply t_cond); (focus (simp only [go_sem, hNE, g0, g4, g6, hjl, hlt, hle, hx, hw, he, encA]; first | done | exact rfl)))
    | (with_reducible intro hc; with_reducible exact Bool.noConfusion hc)
    | (with_reducible intro hc; have hC := And.intro hC hc))
                    have hb : actBad c i x = 0 := by rw [ha, ← hr2, hcap]; simp [broken, idx]
                    refine k_inv (k - 1) (by omega) ⟨i + 1, by omega, ?_, by simp only [go_sem, g0], by simp only [go_sem, g4, hw]⟩
                    rw [← hr, firstBad, if_pos hb]
              | false =>
                (have hNE := True.intro; have hC := True.intro; repeat' first
    | with_reducible refine k_seq ?_
    | with_reducible refine t_seq ?_
    | with_reducible refine t_reg ?_
    | with_reducible refine t_nil ?_
    | with_reducible refine t_exit ?_
    | with_reducible refine k_seq_exit ?_
    | with_reducible refine k_blk_exit ?_
    | with_reducible refine k_inv_exit ?_
    | with_reducible refine t_block ?_
    | ((with_reducible apply t_val); exact rfl; (intro _ _ _ h; cases h); (focus (simp only [go_sem, hNE, h0, h4, hlt, hle, hx, hw, he, hz, encA]; first | done | exact rfl)))
    | ((with_reducible apply t_gval); exact rfl; (focus (simp only [go_sem, hNE, h0, h4, hlt, hle, hx, hw, he, hz, encA]; first | done | exact rfl)); exact rfl; (intro _ _ _ h; cases h); (focus (intro hG; simp only [go_sem, hNE, h0, h4, hlt, hle, hx, hw, he, hz, encA, hG]; first | done | exact rfl)))
    | ((with_reducible apply t_gno); exact rfl; (focus (simp only [go_sem, hNE, h0, h4, hlt, hle, hx, hw, he, hz, encA]; first | done | exact rfl)); exact rfl)
    | ((with_reducible apply t_cond); (focus (simp only [go_sem, hNE, h0, h4, hlt, hle, hx, hw, he, hz, encA]; first | done | exact rfl)))
    | (with_reducible intro hc; with_reducible exact Bool.noConfusion hc)
    | (with_reducible intro hc; have hC := And.intro hC hc))
                refine t_loop (fun k2 s => ∃ j : Nat, j + k2 = i ∧ idx (fun y : Act => (y.kw == x.kw)) ((c.take i).drop j) j = idx (fun y : Act => (y.kw == x.kw)) (c.take i) 0 ∧ s.env 0 = .list .any (c.map encA) ∧ s.env 4 = .int .i64 i ∧ s.env 7 = .int .i64 j) i ?_ ?_
                · exact ⟨0, by omega, rfl, by simp only [go_sem, h0], by simp only [go_sem, h4], by simp only [go_sem]⟩
                · rintro k2 s2 ⟨j, hk2, hr2, g0, g4, g6⟩
                  by_cases hj : j < i
                  · obtain ⟨y, hy, hyd⟩ := at_take hj (Nat.le_of_lt hi)
                    have hjl := lt_int hj
                    have hjl2 : (j : Int) < (c.length : Int) := by omega
                    have hw2 := wrap_next hj (Nat.le_of_lt (Nat.lt_of_lt_of_le hi hl))
                    rw [hyd] at hr2
                    (have hNE := True.intro; have hC := True.intro; repeat' first
    | with_reducible refine k_seq ?_
    | with_reducible refine t_seq ?_
    | with_reducible refine t_reg ?_
    | with_reducible refine t_nil ?_
    | with_reducible refine t_skip ?_
    | with_reducible refine t_ret ?_
    | with_reducible refine k_seq_ret ?_
    | with_reducible refine k_blk_ret ?_
    | with_reducible refine k_blk ?_
    | with_reducible refine k_inv_ret ?_
    | with_reducible refine t_block ?_
    | with_reducible refine t_drwE (by decide +kernel) ?_
    | with_reducible refine m_nil ?_
    | ((with_reducible apply t_val); exact rfl; (intro _ _ _ h; cases h); (focus (simp only [go_sem, hNE, g0, g4, g6, hjl, hjl2, hlt, hle, hx, hy, hw, hw2, he, encA]; first | done | exact rfl)))
    | ((with_reducible apply t_gval); exact rfl; (focus (simp only [go_sem, hNE, g0, g4, g6, hjl, hjl2, hlt, hle, hx, hy, hw, hw2, he, encA]; first | done | exact rfl)); exact rfl; (intro _ _ _ h; cases h); (focus (intro hG; simp only [go_sem, hNE, g0, g4, g6, hjl, hjl2, hlt, hle, hx, hy, hw, hw2, he, encA, hG]; first | done | exact rfl)))
    | ((with_reducible apply m_val); exact rfl; exact rfl; (intro _ _ _ h; cases h); (focus (simp only [go_sem, hNE, g0, g4, g6, hjl, hjl2, hlt, hle, hx, hy, hw, hw2, he, encA]; first | done | exact rfl)))
    | ((with_reducible apply t_cond); (focus (simp only [go_sem, hNE, g0, g4, g6, hjl, hjl2, hlt, hle, hx, hy, hw, hw2, he, encA]; first | done | exact rfl)))
    | (with_reducible intro hc; with_reducible exact Bool.noConfusion hc)
    | (with_reducible intro hc; have hC := And.intro hC hc))
                    · have hix : idx (fun y : Act => (y.kw == x.kw)) (c.take i) 0 = (j : Int) := by rw [← hr2]; simp only [idx, hc, if_true]
                      have hb : actBad c i x = 23 := by rw [ha, hix, hcap]; simp [broken]
                      rw [← hr, firstBad, if_neg (by rw [hb]; decide), hb]
                      all_goals (apply pend rs32; (focus (simp only [go_sem, g0, g4, g6, *]; first | done | exact rfl)); (focus (simp only [go_sem, g0, g4, g6, *]; first | done | exact rfl | simp_all)))
                    · refine k_inv (k2 - 1) (by omega) ⟨j + 1, by omega, ?_, by simp only [go_sem, g0], by simp only [go_sem, g4], by simp only [go_sem, g6, hw2]⟩
                      rw [← hr2]; simp only [idx, hc, Bool.false_eq_true, if_false]; rfl
                  · have hjl : ((j : Int) < (i : Int)) = False := nlt_int hj
                    rw [at_take_end hj] at hr2
                    (have hNE := True.intro; have hC := True.intro; repeat' first
    | with_reducible refine k_seq ?_
    | with_reducible refine t_seq ?_
    | with_reducible refine t_reg ?_
    | with_reducible refine t_nil ?_
    | with_reducible refine t_exit ?_
    | with_reducible refine k_seq_exit ?_
    | with_reducible refine k_blk_exit ?_
    | with_reducible refine k_blk ?_
    | with_reducible refine k_inv_exit ?_
    | ((with_reducible apply t_val); exact rfl; (intro _ _ _ h; cases h); (focus (simp only [go_sem, hNE, g0, g4, g6, hjl, hlt, hle, hx, hw, he, encA]; first | done | exact rfl)))
    | ((with_reducible apply t_gval); exact rfl; (focus (simp only [go_sem, hNE, g0, g4, g6, hjl, hlt, hle, hx, hw, he, encA]; first | done | exact rfl)); exact rfl; (intro _ _ _ h; cases h); (focus (intro hG; simp only [go_sem, hNE, g0, g4, g6, hjl, hlt, hle, hx, hw, he, encA, hG]; first | done | exact rfl)))
    | ((with_reducible apply t_gno); exact rfl; (focus (simp only [go_sem, hNE, g0, g4, g6, hjl, hlt, hle, hx, hw, he, encA]; first | done | exact rfl)); exact rfl)
    | ((with_reducible apply t_cond); (focus (simp only [go_sem, hNE, g0, g4, g6, hjl, hlt, hle, hx, hw, he, encA]; first | done | exact rfl)))
    | (with_reducible intro hc; with_reducible exact Bool.noConfusion hc)
    | (with_reducible intro hc; have hC := And.intro hC hc))
                    have hb : actBad c i x = 0 := by rw [ha, ← hr2, hcap]; simp [broken, idx]
                    refine k_inv (k - 1) (by omega) ⟨i + 1, by omega, ?_, by simp only [go_sem, g0], by simp only [go_sem, g4, hw]⟩
                    rw [← hr, firstBad, if_pos hb]
        · have hb : actBad c i x = featErr x.f := by unfold actBad; simp [orE, hp]
          (have hNE := True.intro; have hC := True.intro; repeat' first
    | with_reducible refine k_seq ?_
    | with_reducible refine t_seq ?_
    | with_reducible refine t_reg ?_
    | with_reducible refine t_nil ?_
    | with_reducible refine t_skip ?_
    | with_reducible refine t_ret ?_
    | with_reducible refine k_seq_ret ?_
    | with_reducible refine k_blk_ret ?_
    | with_reducible refine k_inv_ret ?_
    | with_reducible refine t_block ?_
    | ((with_reducible apply t_val); exact rfl; (intro _ _ _ h; cases h); (focus (simp only [go_sem, hNE, h0, h4, hlt, hle, hx, hw, hp, encA]; first | done | exact rfl)))
    | ((with_reducible apply t_callS); (focus (simp only [go_sem, hNE, h0, h4, hlt, hle, hx, hw, hp, encA]; first | done | exact rfl)); (focus (simp only [go_sem, hNE, h0, h4, hlt, hle, hx, hw, hp, encA]; first | done | exact rfl)); (focus (simp only [go_sem, hNE, h0, h4, hlt, hle, hx, hw, hp, encA]; first | done | exact rfl)); (first | exact p75f x.f | exact p76 x.kw))
    | ((with_reducible apply t_cond); (focus (simp only [go_sem, hNE, h0, h4, hlt, hle, hx, hw, hp, encA]; first | done | exact rfl)))
    | (with_reducible intro hc; with_reducible exact Bool.noConfusion hc)
    | (with_reducible intro hc; have hC := And.intro hC hc))
          rw [← hr, firstBad, if_neg (by rw [hb]; exact hp), hb]
          all_goals (apply pend rs32; (focus (simp only [go_sem, h0, h4, hx, *]; first | done | exact rfl)); (focus (simp only [go_sem, h0, h4, hx, *]; first | done | exact rfl | simp_all)))
      · have hlt := nlt_int hi
        rw [at_end hi] at hr
        (have hNE := True.intro; have hC := True.intro; repeat' first
    | with_reducible refine k_seq ?_
    | with_reducible refine t_seq ?_
    | with_reducible refine t_reg ?_
    | with_reducible refine t_nil ?_
    | with_reducible refine t_ret ?_
    | with_reducible refine t_exit ?_
    | with_reducible refine k_seq_exit ?_
    | with_reducible refine k_blk_exit ?_
    | with_reducible refine k_inv_exit ?_
    | ((with_reducible apply t_val); exact rfl; (intro _ _ _ h; cases h); (focus (simp only [go_sem, hNE, h0, h4, hlt]; first | done | exact rfl)))
    | ((with_reducible apply t_cond); (focus (simp only [go_sem, hNE, h0, h4, hlt]; first | done | exact rfl)))
    | (with_reducible intro hc; with_reducible exact Bool.noConfusion hc)
    | (with_reducible intro hc; have hC := And.intro hC hc))
        rw [← hr]
        all_goals (apply pend rs32; (focus (simp only [go_sem, firstBad, *]; first | done | exact rfl)); (focus (simp only [go_sem, firstBad, *]; first | done | exact rfl | simp_all)))
theorem p20 (c : List Act) (hl : c.length ≤ 1000) : PPure Try.prog 20 [.list .any (c.map encA)] (.int .i64 (callErr c)) := by
  (refine ppure_of_T ok20 (by simp only [List.length_cons, List.length_nil]; decide) ?_; refine t_seq ?_)
  (have hNE := True.intro; have hC := True.intro; repeat' first
    | with_reducible refine k_seq ?_
    | with_reducible refine t_seq ?_
    | with_reducible refine t_reg ?_
    | with_reducible refine t_nil ?_
    | with_reducible refine t_ret ?_
    | ((with_reducible apply t_val); exact rfl; (intro _ _ _ h; cases h); (focus (simp only [go_sem, hNE]; first | done | exact rfl)))
    | ((with_reducible apply t_callS); (focus (simp only [go_sem, hNE]; first | done | exact rfl)); (focus (simp only [go_sem, hNE]; first | done | exact rfl)); (focus (simp only [go_sem, hNE]; first | done | exact rfl)); (first | exact p32 c hl)))
  all_goals (apply pend rs20; (focus (simp only [go_sem, callErr, *]; first | done | exact rfl)); (focus (simp only [go_sem, callErr, *]; first | done | exact rfl | simp_all)))
end Go.Proofs.Ytloecggdboingaa
