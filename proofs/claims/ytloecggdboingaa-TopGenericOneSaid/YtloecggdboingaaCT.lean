/- Chapter 18: GenericResolves. -/
import Derived.Test.YtloecggdboingaaCF
import Derived.Test.YtloecggdboingaaCC
import Derived.Test.YtloecggdboingaaFC
namespace Go.Proofs.Ytloecggdboingaa
open Go.RowKit Go.Proofs
set_option linter.unusedVariables false
set_option linter.unusedSimpArgs false
attribute [local irreducible] PPure

theorem shortB_len {p : Prc} (h : shortB p = true) : p.ds.length ≤ 10 := by
  simp only [shortB, longB, Bool.and_eq_true, Bool.not_eq_true', decide_eq_false_iff_not] at h
  omega
theorem fewB_tiny {l : List Prc} (h : fewB l = true) : Tiny l ∧ l.length ≤ 10 := by
  simp only [fewB, longB, fewAll, Bool.and_eq_true, Bool.not_eq_true', decide_eq_false_iff_not, List.all_eq_true] at h
  exact ⟨⟨by omega, fun p hp => Nat.le_trans (shortB_len (h.2 p hp)) (by decide)⟩, by omega⟩
theorem briefB_len {c : List Act} (h : briefB c = true) : c.length ≤ 10 := by
  simp only [briefB, longB, Bool.and_eq_true, Bool.not_eq_true', decide_eq_false_iff_not] at h
  omega
theorem orE_two (a b : Int) : orE [a, b] = if a = 0 then b else a := by
  simp only [orE]; split <;> simp_all
theorem cast1 : ((1 : Nat) : Int) = 1 := rfl
attribute [go_sem] cast1
theorem ints_self (w : List Int) : intsB w w = true := (intsB_iff w w).2 rfl
end Go.Proofs.Ytloecggdboingaa
namespace Go.Proofs.Ytloecggdboingaa
open Go.RowKit Go.Proofs
set_option linter.unusedVariables false
set_option linter.unusedSimpArgs false
attribute [local irreducible] PPure

theorem srch_some {α : Type} {f : Nat → Option α} {x : α} : ∀ (k i : Nat), srch f k i = some x → ∃ j, i ≤ j ∧ j < i + k ∧ f j = some x
  | k + 1, i, h => by
    rw [srch] at h
    split at h
    · rename_i y hy
      obtain rfl := Option.some.inj h
      exact ⟨i, Nat.le_refl _, by omega, hy⟩
    · obtain ⟨j, h1, h2, h3⟩ := srch_some k (i + 1) h
      exact ⟨j, by omega, by omega, h3⟩
theorem commonF_spec {a b : Prc} {x : List Act} (h : commonF a b = some x) : ∃ k, k ≤ a.ds.length ∧ k ≤ b.ds.length ∧ x = callOfF b.ds k a.ds 0 ∧ (matchF a x).isSome = true ∧ (matchF b x).isSome = true := by
  obtain ⟨k, _, h2, h3⟩ := srch_some _ _ h
  unfold cm at h3
  split at h3
  · rename_i hc
    obtain rfl := Option.some.inj h3
    simp only [Bool.and_eq_true] at hc
    exact ⟨k, by omega, by omega, rfl, hc.1, hc.2⟩
  · cases h3
theorem actEq_self (x : Act) : actEq x x = true := by simp [actEq]
theorem sameF_self : ∀ l : List Act, sameF l l = true
  | [] => rfl
  | x :: l => by rw [sameF, if_pos (actEq_self x)]; exact sameF_self l

theorem mstep_len {ds : List Dum} {i : Nat} {x : Act} {out : List Int} {r : Int} {o : List Int × Int} (h : mstep ds i x out r = some o) : o.1.length = out.length := by
  unfold mstep at h
  split at h
  · cases h
  · split at h
    · unfold mtake at h
      split at h
      · cases h
      · split at h
        · split at h
          · cases h
          · obtain rfl := Option.some.inj h
            simp
        · obtain rfl := Option.some.inj h
          simp
    · cases h
theorem mloop_len {ds : List Dum} : ∀ (c : List Act) (i : Nat) (out : List Int) (r : Int) (w : List Int), mloop ds c i out r = some w → w.length = out.length
  | [], _, out, _, w, h => by rw [mloop] at h; rw [Option.some.inj h]
  | x :: c, i, out, r, w, h => by
    rw [mloop] at h
    obtain ⟨o, ho, h⟩ := Option.bind_eq_some_iff.1 h
    rw [mloop_len c _ _ _ _ h, mstep_len ho]
theorem matchF_len {p : Prc} {c : List Act} {w : List Int} (h : matchF p c = some w) : w.length = p.ds.length := by
  unfold matchF at h
  obtain ⟨o, ho, h⟩ := Option.bind_eq_some_iff.1 h
  split at h
  · obtain rfl := Option.some.inj h
    rw [mloop_len _ _ _ _ _ ho]; simp
  · cases h
/-! The rules of both texts. -/
theorem prcErr_len {p : Prc} (h : prcErr p = 0) : p.ds.length ≤ 8 := by
  unfold prcErr at h
  split at h
  · rename_i h1
    cases hb : decide ((p.ds.length : Int) ≤ 8) with
    | true => simp at hb; omega
    | false =>
      simp only [broken, hb, Bool.false_eq_true, if_false] at h1
      split at h1 <;> omega
  · contradiction
theorem bothErr_zero {a b : Prc} (h : bothErr a b = 0) : prcErr a = 0 ∧ prcErr b = 0 := by
  unfold bothErr at h
  rw [orE_two] at h
  split at h
  · exact ⟨by assumption, h⟩
  · contradiction
theorem bothErr_of {a b : Prc} (ha : prcErr a = 0) (hb : prcErr b = 0) : bothErr a b = 0 := by
  unfold bothErr; rw [orE_two, if_pos ha, hb]
theorem rules_same' {a b : Prc} (h : bothErr a b = 0) : refDist a b = distF a b := rules_same h (prcErr_len (bothErr_zero h).1) (prcErr_len (bothErr_zero h).2)
/-! Pairs. -/
theorem firstBad_all {α : Type} {g : Nat → α → Int} : ∀ (l : List α) (i : Nat), (firstBad g l i).2 = 0 → ∀ x ∈ l, ∃ j, g j x = 0
  | x :: r, i, h, y, hy => by
    rw [firstBad] at h
    split at h
    · rename_i h0
      rcases List.mem_cons.1 hy with rfl | hy
      · exact ⟨i, h0⟩
      · exact firstBad_all r (i + 1) h y hy
    · contradiction
theorem itfErr_all {l : List Prc} (h : itfErr l = 0) : ∀ p ∈ l, prcErr p = 0 := by
  intro p hp
  unfold itfErr itfBad at h
  split at h
  · simp at h
  · obtain ⟨j, hj⟩ := firstBad_all l 0 h p hp
    unfold prcBad at hj
    rw [orE_two] at hj
    split at hj
    · assumption
    · contradiction
theorem pairF_congr {g g' : Prc → Prc → Bool} {l : List Prc} (h : ∀ a b, a ∈ l → b ∈ l → g a b = g' a b) : pairF g l = pairF g' l := by
  refine srch_congr _ _ fun i _ _ => ?_
  unfold pairR
  cases ha : l[i]? with
  | none => rfl
  | some a =>
    refine srch_congr _ _ fun k _ _ => ?_
    unfold pairK
    cases hb : l[i + 1 + k]? with
    | none => rfl
    | some b =>
      have := h a b (List.mem_of_getElem? ha) (List.mem_of_getElem? hb)
      simp only [this]
end Go.Proofs.Ytloecggdboingaa
namespace Go.Proofs.Ytloecggdboingaa
open Go.RowKit Go.Proofs
set_option linter.unusedVariables false
set_option linter.unusedSimpArgs false

structure Fit (ds : List Dum) (c : List Act) : Prop where
  acc : ∀ j x, c[j]? = some x → ∃ q d, actAt ds j x = ((q : Nat) : Int) ∧ ds[q]? = some d ∧ accB d x.f = true
  inj : ∀ j j' x x', c[j]? = some x → c[j']? = some x' → actAt ds j x = actAt ds j' x' → j = j'
  rank : ∀ j j' x x' q q' d d', c[j]? = some x → c[j']? = some x' → actAt ds j x = ((q : Nat) : Int) → actAt ds j' x' = ((q' : Nat) : Int) → ds[q]? = some d → ds[q']? = some d' → d.elem = true → d'.elem = true → 0 < x.f.r → 0 < x'.f.r → x.f.r = x'.f.r
  cov : ∀ q d, ds[q]? = some d → d.opt = false → ∃ j x, c[j]? = some x ∧ actAt ds j x = ((q : Nat) : Int)

structure Sta (ds : List Dum) (c : List Act) (i : Nat) (out : List Int) (rank : Int) : Prop where
  len : out.length = ds.length
  fill : ∀ (q : Nat) v, out[q]? = some v → v = -1 ∨ ∃ j x, j < i ∧ c[j]? = some x ∧ actAt ds j x = (q : Int)
  done : ∀ j x, j < i → c[j]? = some x → ∃ (q : Nat) (d : Dum) (v : Int), actAt ds j x = (q : Int) ∧ ds[q]? = some d ∧ accB d x.f = true ∧ out[q]? = some v ∧ v ≠ -1 ∧ (d.elem = true → 0 < x.f.r → x.f.r = rank)
  inj : ∀ j j' x x', j < i → j' < i → c[j]? = some x → c[j']? = some x' → actAt ds j x = actAt ds j' x' → j = j'
  rk : 0 ≤ rank ∧ (0 < rank → ∃ j x, ∃ q : Nat, ∃ d, j < i ∧ c[j]? = some x ∧ actAt ds j x = (q : Int) ∧ ds[q]? = some d ∧ d.elem = true ∧ x.f.r = rank)

theorem mstep_spec {ds : List Dum} {i : Nat} {x : Act} {out : List Int} {rank : Int} {o : List Int × Int} (hl : out.length = ds.length) :
    mstep ds i x out rank = some o ↔ ∃ (q : Nat) (d : Dum), actAt ds i x = (q : Int) ∧ ds[q]? = some d ∧ out[q]? = some (-1) ∧ accB d x.f = true ∧
      (d.elem = true → 0 < x.f.r → 0 < rank → x.f.r = rank) ∧ o = (out.set q (i : Int), if (d.elem && decide (0 < x.f.r)) = true then x.f.r else rank) := by
  unfold mstep
  constructor
  · intro h
    split at h
    · cases h
    · rename_i hin
      have hin' : 0 ≤ actAt ds i x ∧ actAt ds i x ≤ (out.length : Int) - 1 := by
        simpa using hin
      split at h
      · rename_i v d hv hd
        refine ⟨(actAt ds i x).toNat, d, by omega, hd, ?_⟩
        unfold mtake at h
        split at h
        · cases h
        · rename_i hc
          have hc' : v = -1 ∧ accB d x.f = true := by simpa using hc
          obtain ⟨rfl, ha⟩ := hc'
          refine ⟨hv, ha, ?_⟩
          split at h
          · rename_i he
            split at h
            · cases h
            · rename_i hr
              obtain rfl := Option.some.inj h
              rw [if_pos he]
              refine ⟨fun _ _ h0 => ?_, rfl⟩
              simp at hr
              exact hr h0
          · rename_i he
            obtain rfl := Option.some.inj h
            rw [if_neg he]
            refine ⟨fun h1 h2 => ?_, rfl⟩
            simp [h1, h2] at he
      · cases h
  · rintro ⟨q, d, hq, hd, hv, ha, hr, rfl⟩
    have hlt : q < out.length := (List.getElem?_eq_some_iff.1 hv).1
    have hin : (decide (0 ≤ actAt ds i x) && decide (actAt ds i x ≤ (out.length : Int) - 1)) = true := by
      simp; omega
    rw [hin, if_neg (by decide), hq, Int.toNat_natCast, hv, hd]
    simp only [mtake, ha, ne_eq, not_true_eq_false, decide_false, Bool.not_true, Bool.or_self, Bool.false_eq_true, if_false]
    split
    · rename_i he
      have he' : d.elem = true ∧ 0 < x.f.r := by simpa using he
      rw [if_neg]
      · rfl
      · simp only [Bool.and_eq_true, decide_eq_true_eq, not_and, Decidable.not_not]
        exact fun h0 => hr he'.1 he'.2 h0
    · rfl

theorem Sta.init (ds : List Dum) (c : List Act) : Sta ds c 0 (List.replicate ds.length (-1)) 0 where
  len := List.length_replicate
  fill := fun q v h => .inl (List.eq_of_mem_replicate (List.mem_of_getElem? h))
  done := fun j x h => by omega
  inj := fun j j' x x' h => by omega
  rk := ⟨Int.le_refl _, fun h => by omega⟩

theorem get_set {out : List Int} {q p : Nat} {a v : Int} (h : (out.set q a)[p]? = some v) : (p = q ∧ v = a) ∨ (p ≠ q ∧ out[p]? = some v) := by
  rw [List.getElem?_set] at h
  split at h
  · rename_i e
    split at h
    · exact .inl ⟨e.symm, (Option.some.inj h).symm⟩
    · cases h
  · rename_i e
    exact .inr ⟨fun h => e h.symm, h⟩

theorem Sta.step {ds : List Dum} {c : List Act} {i : Nat} {out : List Int} {rank : Int} {x : Act} {o : List Int × Int} (h : Sta ds c i out rank) (hx : c[i]? = some x) (ho : mstep ds i x out rank = some o) : Sta ds c (i + 1) o.1 o.2 := by
  obtain ⟨q, d, hq, hd, hv, ha, hr, rfl⟩ := (mstep_spec h.len).1 ho
  have hlt : q < out.length := (List.getElem?_eq_some_iff.1 hv).1
  have hne : ((i : Nat) : Int) ≠ -1 := by omega
  -- the rank after the step
  have hrk : ∀ r, 0 < r → r = rank → (if (d.elem && decide (0 < x.f.r)) = true then x.f.r else rank) = r := by
    intro r h0 e
    split
    · rename_i he
      have he' : d.elem = true ∧ 0 < x.f.r := by simpa using he
      rw [hr he'.1 he'.2 (by omega)]; exact e.symm
    · exact e.symm
  refine ⟨by simp [h.len], fun p v hp => ?_, fun j y hj hy => ?_, fun j j' y y' hj hj' hy hy' he => ?_, ?_⟩
  · rcases get_set hp with ⟨rfl, rfl⟩ | ⟨hpq, hp⟩
    · exact .inr ⟨i, x, by omega, hx, hq⟩
    · rcases h.fill p v hp with h1 | ⟨j, y, h1, h2, h3⟩
      · exact .inl h1
      · exact .inr ⟨j, y, by omega, h2, h3⟩
  · rcases Nat.lt_or_ge j i with hlt' | hge
    · obtain ⟨q', d', v, h1, h2, h3, h4, h5, h6⟩ := h.done j y hlt' hy
      by_cases hqq : q' = q
      · refine ⟨q', d', i, h1, h2, h3, ?_, hne, fun k1 k2 => (hrk _ k2 (h6 k1 k2)).symm⟩
        rw [hqq, List.getElem?_set_self hlt]
      · refine ⟨q', d', v, h1, h2, h3, ?_, h5, fun k1 k2 => (hrk _ k2 (h6 k1 k2)).symm⟩
        rw [List.getElem?_set_ne (fun e => hqq e.symm)]; exact h4
    · obtain rfl : j = i := by omega
      rw [hx] at hy
      obtain rfl := Option.some.inj hy
      refine ⟨q, d, j, hq, hd, ha, List.getElem?_set_self hlt, hne, fun k1 k2 => ?_⟩
      rw [if_pos (by simp [k1, k2])]
  · -- no two at one place
    have key : ∀ j y, j < i → c[j]? = some y → actAt ds j y ≠ actAt ds i x := by
      intro j y hj hy e
      obtain ⟨q', d', v, h1, _, _, h4, h5, _⟩ := h.done j y hj hy
      rw [e, hq] at h1
      have : q = q' := by omega
      subst this
      rw [hv] at h4
      exact h5 (Option.some.inj h4).symm
    rcases Nat.lt_or_ge j i with h1 | h1 <;> rcases Nat.lt_or_ge j' i with h2 | h2
    · exact h.inj j j' y y' h1 h2 hy hy' he
    · obtain rfl : j' = i := by omega
      rw [hx] at hy'; obtain rfl := Option.some.inj hy'
      exact absurd he (key j y h1 hy)
    · obtain rfl : j = i := by omega
      rw [hx] at hy; obtain rfl := Option.some.inj hy
      exact absurd he.symm (key j' y' h2 hy')
    · omega
  · obtain ⟨h1, h2⟩ := h.rk
    simp only
    split
    · rename_i he
      have he' : d.elem = true ∧ 0 < x.f.r := by simpa using he
      exact ⟨by omega, fun _ => ⟨i, x, q, d, by omega, hx, hq, hd, he'.1, rfl⟩⟩
    · refine ⟨h1, fun h0 => ?_⟩
      obtain ⟨j, y, q', d', k1, k2⟩ := h2 h0
      exact ⟨j, y, q', d', by omega, k2⟩

theorem mloop_sta {ds : List Dum} {c : List Act} : ∀ (l : List Act) (i : Nat) (out : List Int) (rank : Int) (w : List Int), c.drop i = l → Sta ds c i out rank → mloop ds l i out rank = some w → ∃ r, Sta ds c c.length w r
  | [], i, out, rank, w, hl, h, hm => by
    rw [mloop] at hm
    obtain rfl := Option.some.inj hm
    have hi : c.length ≤ i := by
      have := congrArg List.length hl
      simp at this; omega
    refine ⟨rank, ⟨h.len, fun q v hv => (h.fill q v hv).imp id fun ⟨j, x, _, h2⟩ => ⟨j, x, (List.getElem?_eq_some_iff.1 h2.1).1, h2⟩, fun j x hj => h.done j x (by omega), fun j j' x x' hj hj' => h.inj j j' x x' (by omega) (by omega), h.rk.1, fun h0 => ?_⟩⟩
    obtain ⟨j, x, q, d, _, h2⟩ := h.rk.2 h0
    exact ⟨j, x, q, d, (List.getElem?_eq_some_iff.1 h2.1).1, h2⟩
  | x :: l, i, out, rank, w, hl, h, hm => by
    rw [mloop] at hm
    obtain ⟨o, ho, hm⟩ := Option.bind_eq_some_iff.1 hm
    have hx : c[i]? = some x := by
      have : (c.drop i)[0]? = some x := by rw [hl]; rfl
      rwa [List.getElem?_drop, Nat.add_zero] at this
    have hl' : c.drop (i + 1) = l := by
      rw [← List.drop_drop, hl]; rfl
    exact mloop_sta l (i + 1) o.1 o.2 w hl' (h.step hx ho) hm

theorem mloop_of_fit {ds : List Dum} {c : List Act} (hf : Fit ds c) : ∀ (l : List Act) (i : Nat) (out : List Int) (rank : Int), c.drop i = l → Sta ds c i out rank → ∃ w, mloop ds l i out rank = some w
  | [], i, out, rank, _, _ => ⟨out, by rw [mloop]⟩
  | x :: l, i, out, rank, hl, h => by
    have hx : c[i]? = some x := by
      have : (c.drop i)[0]? = some x := by rw [hl]; rfl
      rwa [List.getElem?_drop, Nat.add_zero] at this
    have hl' : c.drop (i + 1) = l := by
      rw [← List.drop_drop, hl]; rfl
    obtain ⟨q, d, hq, hd, ha⟩ := hf.acc i x hx
    have hlt : q < out.length := by rw [h.len]; exact (List.getElem?_eq_some_iff.1 hd).1
    have hv : out[q]? = some (-1) := by
      rw [List.getElem?_eq_getElem hlt]
      rcases h.fill q _ (List.getElem?_eq_getElem hlt) with h1 | ⟨j, y, h1, h2, h3⟩
      · rw [h1]
      · have := hf.inj j i y x h2 hx (by rw [h3, hq])
        omega
    have hr : d.elem = true → 0 < x.f.r → 0 < rank → x.f.r = rank := by
      intro k1 k2 k3
      obtain ⟨j, y, q', d', h1, h2, h3, h4, h5, h6⟩ := h.rk.2 k3
      rw [← h6]
      exact hf.rank i j x y q q' d d' hx h2 hq h3 hd h4 k1 h5 k2 (by omega)
    have ho := (mstep_spec (i := i) (x := x) (rank := rank) h.len).2 ⟨q, d, hq, hd, hv, ha, hr, rfl⟩
    obtain ⟨w, hw⟩ := mloop_of_fit hf l (i + 1) _ _ hl' (h.step hx ho)
    exact ⟨w, by rw [mloop, ho]; exact hw⟩

theorem mfin_iff : ∀ (ds : List Dum) (out : List Int), mfin ds out = true ↔ ∀ (q : Nat) d v, ds[q]? = some d → out[q]? = some v → v = -1 → d.opt = true
  | [], out => by simp [mfin]
  | d :: ds, [] => by simp [mfin]
  | d :: ds, v :: out => by
    rw [mfin]
    constructor
    · intro h q d' v' h1 h2 h3
      split at h
      · cases h
      · rename_i hc
        cases q with
        | zero =>
          obtain rfl : d = d' := by simpa using h1
          obtain rfl : v = v' := by simpa using h2
          simp [h3] at hc
          exact hc
        | succ q => exact (mfin_iff ds out).1 h q d' v' (by simpa using h1) (by simpa using h2) h3
    · intro h
      rw [if_neg]
      · exact (mfin_iff ds out).2 fun q d' v' h1 h2 h3 => h (q + 1) d' v' (by simpa using h1) (by simpa using h2) h3
      · intro hc
        simp only [Bool.and_eq_true, decide_eq_true_eq, Bool.not_eq_true'] at hc
        have := h 0 d v rfl rfl hc.1
        rw [this] at hc; cases hc.2

theorem fit_iff (p : Prc) (c : List Act) : (matchF p c).isSome = true ↔ Fit p.ds c := by
  constructor
  · intro h
    obtain ⟨w, hw⟩ := Option.isSome_iff_exists.1 h
    unfold matchF at hw
    obtain ⟨o, ho, hw⟩ := Option.bind_eq_some_iff.1 hw
    split at hw
    · rename_i hfin
      obtain ⟨r, hs⟩ := mloop_sta c 0 _ _ o rfl (Sta.init p.ds c) ho
      have hj : ∀ {j : Nat} {x : Act}, c[j]? = some x → j < c.length := fun h => (List.getElem?_eq_some_iff.1 h).1
      refine ⟨fun j x hx => ?_, fun j j' x x' hx hx' he => hs.inj j j' x x' (hj hx) (hj hx') hx hx' he, fun j j' x x' q q' d d' hx hx' hq hq' hd hd' k1 k2 k3 k4 => ?_, fun q d hd hopt => ?_⟩
      · obtain ⟨q, d, v, h1, h2, h3, _⟩ := hs.done j x (hj hx) hx
        exact ⟨q, d, h1, h2, h3⟩
      · obtain ⟨p1, d1, v1, a1, a2, _, _, _, a6⟩ := hs.done j x (hj hx) hx
        obtain ⟨p2, d2, v2, b1, b2, _, _, _, b6⟩ := hs.done j' x' (hj hx') hx'
        have e1 : p1 = q := by omega
        have e2 : p2 = q' := by omega
        subst e1; subst e2
        rw [hd] at a2; obtain rfl := Option.some.inj a2
        rw [hd'] at b2; obtain rfl := Option.some.inj b2
        rw [a6 k1 k3, b6 k2 k4]
      · have hlt : q < o.length := by rw [hs.len]; exact (List.getElem?_eq_some_iff.1 hd).1
        rcases hs.fill q _ (List.getElem?_eq_getElem hlt) with h1 | ⟨j, x, _, h2, h3⟩
        · have := (mfin_iff _ _).1 hfin q d _ hd (List.getElem?_eq_getElem hlt) h1
          rw [hopt] at this; cases this
        · exact ⟨j, x, h2, h3⟩
    · cases hw
  · intro hf
    obtain ⟨w, hw⟩ := mloop_of_fit hf c 0 _ _ rfl (Sta.init p.ds c)
    obtain ⟨r, hs⟩ := mloop_sta c 0 _ _ w rfl (Sta.init p.ds c) hw
    have hfin : mfin p.ds w = true := by
      refine (mfin_iff _ _).2 fun q d v hd hv he => ?_
      cases ho : d.opt with
      | true => rfl
      | false =>
        obtain ⟨j, x, hx, hq⟩ := hf.cov q d hd ho
        obtain ⟨q', d', v', h1, h2, h3, h4, h5, _⟩ := hs.done j x (List.getElem?_eq_some_iff.1 hx).1 hx
        have : q' = q := by omega
        subst this
        rw [hv] at h4
        obtain rfl := Option.some.inj h4
        exact absurd he h5
    unfold matchF
    rw [hw, Option.bind_some, if_pos hfin]
    rfl
end Go.Proofs.Ytloecggdboingaa
namespace Go.Proofs.Ytloecggdboingaa
open Go.RowKit Go.Proofs
set_option linter.unusedVariables false
set_option linter.unusedSimpArgs false

/-! ### The first index -/
theorem idx_spec {α : Type} {g : α → Bool} : ∀ (l : List α) (i : Nat), (idx g l i = -1 ∧ ∀ x ∈ l, g x = false) ∨ (∃ q x, idx g l i = ((i + q : Nat) : Int) ∧ l[q]? = some x ∧ g x = true)
  | [], i => .inl ⟨rfl, fun x h => by cases h⟩
  | x :: r, i => by
    rw [idx]
    split
    · rename_i h
      exact .inr ⟨0, x, rfl, rfl, h⟩
    · rename_i h
      rw [show ((i : Int) + 1) = ((i + 1 : Nat) : Int) from rfl]
      rcases idx_spec r (i + 1) with ⟨h1, h2⟩ | ⟨q, y, h1, h2, h3⟩
      · refine .inl ⟨h1, fun y hy => ?_⟩
        rcases List.mem_cons.1 hy with rfl | hy
        · simpa using h
        · exact h2 y hy
      · exact .inr ⟨q + 1, y, by rw [h1]; congr 1; omega, h2, h3⟩
theorem idx_neg {α : Type} {g : α → Bool} {l : List α} : (decide (0 ≤ idx g l 0)) = false ↔ ∀ x ∈ l, g x = false := by
  rcases idx_spec (g := g) l 0 with ⟨h1, h2⟩ | ⟨q, y, h1, h2, h3⟩
  · rw [show ((0 : Nat) : Int) = 0 from rfl] at h1
    rw [h1]; exact ⟨fun _ => h2, fun _ => rfl⟩
  · rw [show ((0 : Nat) : Int) = 0 from rfl] at h1
    rw [h1]
    refine ⟨fun h => ?_, fun h => ?_⟩
    · simp at h
    · rw [h y (List.mem_of_getElem? h2)] at h3; cases h3
theorem named_cases (ds : List Dum) (nm : List UInt8) : (named ds nm = -1 ∧ ∀ d ∈ ds, d.name ≠ nm) ∨ (∃ (q : Nat) (d : Dum), named ds nm = (q : Int) ∧ ds[q]? = some d ∧ d.name = nm) := by
  rcases idx_spec (g := fun d : Dum => d.name == nm) ds 0 with ⟨h1, h2⟩ | ⟨q, y, h1, h2, h3⟩
  · exact .inl ⟨h1, fun d hd e => by have := h2 d hd; simp [e] at this⟩
  · exact .inr ⟨q, y, by rw [named]; rw [show ((0 : Nat) : Int) = 0 from rfl] at h1; rw [h1, Nat.zero_add], h2, by simpa using h3⟩

/-! ### Valid procedures, valid calls -/
theorem firstBad_at {α : Type} {g : Nat → α → Int} : ∀ (l : List α) (i : Nat), (firstBad g l i).2 = 0 → ∀ j x, l[j]? = some x → g (i + j) x = 0
  | x :: r, i, h, j, y, hy => by
    rw [firstBad] at h
    split at h
    · rename_i h0
      cases j with
      | zero => simp at hy; subst hy; exact h0
      | succ j =>
        have := firstBad_at r (i + 1) h j y (by simpa using hy)
        rw [show i + 1 + j = i + (j + 1) by omega] at this
        exact this
    · contradiction
theorem firstBad_zero {α : Type} {g : Nat → α → Int} : ∀ (l : List α) (i : Nat), (∀ j x, l[j]? = some x → g (i + j) x = 0) → firstBad g l i = (0, 0)
  | [], _, _ => rfl
  | x :: r, i, h => by
    rw [firstBad, if_pos (by simpa using h 0 x rfl)]
    exact firstBad_zero r (i + 1) fun j y hy => by
      have := h (j + 1) y (by simpa using hy)
      rw [show i + 1 + j = i + (j + 1) by omega]; exact this
theorem orE_zero {l : List Int} : orE l = 0 ↔ ∀ x ∈ l, x = 0 := by
  induction l with
  | nil => simp [orE]
  | cons a l ih =>
    rw [orE]
    split
    · rename_i h; rw [ih]; simp [h]
    · rename_i h; simp [h]
theorem broken_zero {l : List (Bool × Int)} (hn : ∀ r ∈ l, r.2 ≠ 0) : broken l = 0 ↔ ∀ r ∈ l, r.1 = true := by
  induction l with
  | nil => simp [broken]
  | cons a l ih =>
    rw [broken]
    have ih := ih fun r hr => hn r (List.mem_cons_of_mem _ hr)
    split
    · rename_i h; rw [ih]; simp [h]
    · rename_i h
      have := hn a List.mem_cons_self
      simp [h, this]
structure Val (ds : List Dum) : Prop where
  len : ds.length ≤ 8
  cap : ∀ d ∈ ds, isCap d.name = true
  feat : ∀ d ∈ ds, featErr d.f = 0
  elem : ∀ d ∈ ds, d.elem = true → d.f.r = 0
  uniq : ∀ (q q' : Nat) (d d' : Dum), ds[q]? = some d → ds[q']? = some d' → d.name = d'.name → q = q'
theorem val_of {p : Prc} (h : prcErr p = 0) : Val p.ds := by
  have hlen := prcErr_len h
  unfold prcErr at h
  split at h
  · have hat : ∀ i d, p.ds[i]? = some d → dumErr d = 0 ∧ named (p.ds.take i) d.name < 0 := by
      intro i d hd
      have := firstBad_at p.ds 0 h i d hd
      rw [Nat.zero_add] at this
      unfold dumBad at this
      rw [orE_zero] at this
      refine ⟨this _ (by simp), ?_⟩
      have h2 := this _ (List.mem_cons_of_mem _ List.mem_cons_self)
      rw [broken_zero (by simp)] at h2
      simpa using h2 _ List.mem_cons_self
    have hd3 : ∀ d ∈ p.ds, isCap d.name = true ∧ featErr d.f = 0 ∧ (d.elem = true → d.f.r = 0) := by
      intro d hd
      obtain ⟨i, hi⟩ := List.getElem?_of_mem hd
      have h1 := (hat i d hi).1
      unfold dumErr at h1
      rw [orE_zero] at h1
      have a1 := h1 (broken [(isCap d.name, 4)]) (by simp)
      have a2 := h1 (featErr d.f) (by simp)
      have a3 := h1 (broken [(!d.elem || decide (d.f.r = 0), 3)]) (by simp)
      rw [broken_zero (by simp)] at a1 a3
      refine ⟨by simpa using a1 _ List.mem_cons_self, a2, fun he => ?_⟩
      have := a3 _ List.mem_cons_self
      simpa [he] using this
    refine ⟨hlen, fun d hd => (hd3 d hd).1, fun d hd => (hd3 d hd).2.1, fun d hd => (hd3 d hd).2.2, ?_⟩
    have key : ∀ (q q' : Nat) (d d' : Dum), q < q' → p.ds[q]? = some d → p.ds[q']? = some d' → d.name ≠ d'.name := by
      intro q q' d d' hlt hd hd' he
      rcases named_cases (p.ds.take q') d'.name with ⟨_, h2⟩ | ⟨k, _, h1, _⟩
      · exact h2 d (List.mem_of_getElem? (by rw [List.getElem?_take_of_lt hlt]; exact hd)) he
      · have := (hat q' d' hd').2; omega
    intro q q' d d' hd hd' he
    rcases Nat.lt_trichotomy q q' with h | h | h
    · exact absurd he (key q q' d d' h hd hd')
    · exact h
    · exact absurd he.symm (key q' q d' d h hd' hd)
  · contradiction
theorem Val.named {ds : List Dum} (h : Val ds) {q : Nat} {d : Dum} (hd : ds[q]? = some d) : Go.Proofs.Ytloecggdboingaa.named ds d.name = (q : Int) := by
  rcases named_cases ds d.name with ⟨_, h2⟩ | ⟨k, e, h1, h2, h3⟩
  · exact absurd rfl (h2 d (List.mem_of_getElem? hd))
  · rw [h1, h.uniq k q e d h2 hd h3]
theorem cap_ne {s : List UInt8} (h : isCap s = true) : s ≠ [] := by
  rintro rfl
  exact absurd h (by decide)
/-- How many actual arguments have no keyword. -/
theorem call_split {c : List Act} (h : callErr c = 0) : ∃ k, k ≤ c.length ∧ ∀ j x, c[j]? = some x → (x.kw = [] ↔ j < k) := by
  have hord : ∀ (j j' : Nat) (x x' : Act), j < j' → c[j]? = some x → c[j']? = some x' → x'.kw = [] → x.kw = [] := by
    intro j j' x x' hlt hx hx' he
    unfold callErr callBad at h
    split at h
    · simp at h
    · have := firstBad_at c 0 h j' x' hx'
      rw [Nat.zero_add] at this
      unfold actBad at this
      rw [orE_zero] at this
      have h2 := this _ (List.mem_cons_of_mem _ List.mem_cons_self)
      rw [broken_zero (by simp)] at h2
      have h3 := h2 (!(x'.kw == []) || !decide (0 ≤ idx (fun y : Act => !(y.kw == [])) (c.take j') 0), 9) (by simp)
      simp only [he, beq_self_eq_true, Bool.not_true, Bool.false_or, Bool.not_eq_true'] at h3
      have := idx_neg.1 h3 x (List.mem_of_getElem? (by rw [List.getElem?_take_of_lt hlt]; exact hx))
      simpa using this
  have key : ∀ l : List Act, (∀ (j j' : Nat) (x x' : Act), j < j' → l[j]? = some x → l[j']? = some x' → x'.kw = [] → x.kw = []) → ∃ k, k ≤ l.length ∧ ∀ j x, l[j]? = some x → (x.kw = [] ↔ j < k) := by
    intro l
    induction l with
    | nil => intro _; exact ⟨0, Nat.le_refl _, fun j x hx => by simp at hx⟩
    | cons y l ih =>
      intro ho
      by_cases hy : y.kw = []
      · obtain ⟨k, hk, hj⟩ := ih fun j j' x x' hlt hx hx' => ho (j + 1) (j' + 1) x x' (by omega) (by simpa using hx) (by simpa using hx')
        refine ⟨k + 1, by simp only [List.length_cons]; omega, fun j x hx => ?_⟩
        cases j with
        | zero => simp at hx; subst hx; simp [hy]
        | succ j => rw [hj j x (by simpa using hx)]; omega
      · refine ⟨0, Nat.zero_le _, fun j x hx => ⟨fun he => ?_, fun h => by omega⟩⟩
        cases j with
        | zero => simp at hx; subst hx; exact absurd he hy
        | succ j => exact absurd (ho 0 (j + 1) y x (by omega) rfl hx he) hy
  exact key c hord

/-! ### The common call, place by place -/
def shf (σ : Nat → Nat) : Nat → Nat
  | 0 => 0
  | j + 1 => σ j + 1
theorem shf_s (σ : Nat → Nat) (j : Nat) : shf σ (j + 1) = σ j + 1 := rfl
theorem shf_0 (σ : Nat → Nat) : shf σ 0 = 0 := rfl
theorem callOf_src (b : List Dum) (k : Nat) : ∀ (l : List Dum) (i0 : Nat), ∃ σ : Nat → Nat,
    (∀ j x, (callOfF b k l i0)[j]? = some x → ∃ d, l[σ j]? = some d ∧ callOne b k (i0 + σ j) d = some x) ∧
    (∀ j j', j < j' → j' < (callOfF b k l i0).length → σ j < σ j') ∧
    (∀ i d x, l[i]? = some d → callOne b k (i0 + i) d = some x → ∃ j, (callOfF b k l i0)[j]? = some x ∧ σ j = i) ∧
    (∀ j, i0 + j < k → j < (callOfF b k l i0).length → σ j = j) ∧ (∀ j, j ≤ σ j)
  | [], i0 => ⟨id, fun j x h => by simp [callOfF] at h, fun j j' _ h => by simp [callOfF] at h, fun i d x h => by simp at h, fun j _ _ => rfl, fun j => Nat.le_refl _⟩
  | d :: r, i0 => by
    obtain ⟨σ, h1, h2, h3, h4, h5⟩ := callOf_src b k r (i0 + 1)
    rw [callOfF]
    cases hc : callOne b k i0 d with
    | some y =>
      refine ⟨shf σ, fun j x hx => ?_, fun j j' hlt hj' => ?_, fun i e x he hx => ?_, fun j hj hl => ?_, fun j => ?_⟩
      · cases j with
        | zero => simp at hx; subst hx; exact ⟨d, rfl, hc⟩
        | succ j =>
          obtain ⟨e, a1, a2⟩ := h1 j x (by simpa using hx)
          refine ⟨e, by rw [shf_s]; simpa using a1, ?_⟩
          rw [shf_s, show i0 + (σ j + 1) = i0 + 1 + σ j by omega]; exact a2
      · cases j' with
        | zero => omega
        | succ j' => cases j with
          | zero => rw [shf_0, shf_s]; omega
          | succ j => have := h2 j j' (by omega) (by simpa using hj'); rw [shf_s, shf_s]; omega
      · cases i with
        | zero =>
          simp at he; subst he
          rw [Nat.add_zero, hc] at hx
          exact ⟨0, by simpa using hx, rfl⟩
        | succ i =>
          obtain ⟨j, a1, a2⟩ := h3 i e x (by simpa using he) (by rw [show i0 + 1 + i = i0 + (i + 1) by omega]; exact hx)
          exact ⟨j + 1, by simpa using a1, by rw [shf_s, a2]⟩
      · cases j with
        | zero => rfl
        | succ j => rw [shf_s, h4 j (by omega) (by simpa using hl)]
      · cases j with
        | zero => exact Nat.le_refl _
        | succ j => have := h5 j; rw [shf_s]; omega
    | none =>
      refine ⟨fun j => σ j + 1, fun j x hx => ?_, fun j j' hlt hj' => ?_, fun i e x he hx => ?_, fun j hj hl => ?_, fun j => ?_⟩
      · obtain ⟨e, a1, a2⟩ := h1 j x hx
        refine ⟨e, by simpa using a1, ?_⟩
        rw [show i0 + (σ j + 1) = i0 + 1 + σ j by omega]; exact a2
      · show σ j + 1 < σ j' + 1
        have := h2 j j' hlt hj'; omega
      · cases i with
        | zero =>
          simp at he; subst he
          rw [Nat.add_zero, hc] at hx; cases hx
        | succ i =>
          obtain ⟨j, a1, a2⟩ := h3 i e x (by simpa using he) (by rw [show i0 + 1 + i = i0 + (i + 1) by omega]; exact hx)
          exact ⟨j, a1, by show σ j + 1 = i + 1; rw [a2]⟩
      · exfalso
        unfold callOne at hc
        rw [if_neg (by omega)] at hc
        cases hc
      · show j ≤ σ j + 1
        have := h5 j; omega
end Go.Proofs.Ytloecggdboingaa
namespace Go.Proofs.Ytloecggdboingaa
open Go.RowKit Go.Proofs
set_option linter.unusedVariables false
set_option linter.unusedSimpArgs false

theorem kindB_iff {f g : Feat} : kindB f g = true ↔ f.t = g.t ∧ f.k = g.k := by simp [kindB]
theorem accB_iff {d : Dum} {f : Feat} : accB d f = true ↔ (d.f.t = f.t ∧ d.f.k = f.k) ∧ (d.elem = true ∨ d.f.r = f.r) := by
  simp [accB, kindB]
theorem actAt_pos {ds : List Dum} {j : Nat} {x : Act} (h : x.kw = []) : actAt ds j x = (j : Int) := by simp [actAt, h]
theorem actAt_kw {ds : List Dum} {j : Nat} {x : Act} (h : x.kw ≠ []) : actAt ds j x = named ds x.kw := by simp [actAt, h]

/-- What an actual argument of the common call is. -/
theorem callOne_spec {b : List Dum} {k i : Nat} {d : Dum} {x : Act} (h : callOne b k i d = some x) :
    (i < k ∧ x = ⟨[], featAt d b i⟩) ∨ (k ≤ i ∧ x = ⟨d.name, featAt d b (named b d.name)⟩ ∧ (d.opt = false ∨ ((k : Int) ≤ named b d.name ∧ optAt b (named b d.name) = false))) := by
  unfold callOne at h
  split at h
  · rename_i hk
    split at h
    · cases h
    · rename_i hn
      refine .inr ⟨by omega, (Option.some.inj h).symm, ?_⟩
      cases ho : d.opt with
      | false => exact .inl rfl
      | true =>
        right
        simp only [ho, Bool.true_and, Bool.not_eq_true', Bool.not_eq_false, neededB, Bool.and_eq_true, decide_eq_true_eq] at hn
        exact ⟨hn.1, by simpa using hn.2⟩
  · rename_i hk
    exact .inl ⟨by omega, (Option.some.inj h).symm⟩
theorem callOne_pos {b : List Dum} {k i : Nat} {d : Dum} (h : i < k) : callOne b k i d = some ⟨[], featAt d b i⟩ := by
  unfold callOne; rw [if_neg (by omega)]
theorem callOne_kw {b : List Dum} {k i : Nat} {d : Dum} (h : k ≤ i) (hn : d.opt = false ∨ ((k : Int) ≤ named b d.name ∧ optAt b (named b d.name) = false)) : callOne b k i d = some ⟨d.name, featAt d b (named b d.name)⟩ := by
  unfold callOne
  rw [if_pos (by omega), if_neg]
  simp only [neededB, Bool.and_eq_true, Bool.not_eq_true', not_and, Bool.not_eq_false, decide_eq_true_eq]
  intro ho
  rcases hn with h1 | ⟨h1, h2⟩
  · rw [h1] at ho; cases ho
  · exact ⟨h1, by simp [h2]⟩

section
variable {a b : List Dum} {c : List Act} {k : Nat}
/-- The places of the common call in the first procedure. -/
theorem common_at (ha : Val a) {σ : Nat → Nat} (h1 : ∀ j x, (callOfF b k a 0)[j]? = some x → ∃ d, a[σ j]? = some d ∧ callOne b k (0 + σ j) d = some x)
    (h4 : ∀ j, 0 + j < k → j < (callOfF b k a 0).length → σ j = j) (h5 : ∀ j, j ≤ σ j) {j : Nat} {x : Act} (hx : (callOfF b k a 0)[j]? = some x) : actAt a j x = (σ j : Int) := by
  obtain ⟨d, hd, hc⟩ := h1 j x hx
  have hl : j < (callOfF b k a 0).length := (List.getElem?_eq_some_iff.1 hx).1
  rw [Nat.zero_add] at hc
  rcases callOne_spec hc with ⟨hk, rfl⟩ | ⟨hk, rfl, _⟩
  · have := h5 j
    rw [actAt_pos rfl, h4 j (by omega) hl]
  · rw [actAt_kw (cap_ne (ha.cap d (List.mem_of_getElem? hd))), ha.named hd]

/-- A place of the common call has a partner in the call that fits both. -/
theorem partner (ha : Val a) (hb : Val b) (fa : Fit a c) (fb : Fit b c) (hk : k ≤ c.length) (hs : ∀ j x, c[j]? = some x → (x.kw = [] ↔ j < k)) {i : Nat} {d : Dum} {x : Act} (hd : a[i]? = some d) (hc : callOne b k i d = some x) :
    ∃ jc y, ∃ n : Nat, ∃ e, c[jc]? = some y ∧ actAt a jc y = (i : Int) ∧ actAt b jc y = (n : Int) ∧ b[n]? = some e ∧ accB d y.f = true ∧ accB e y.f = true ∧
      ((i < k ∧ n = i ∧ x = ⟨[], mixF d e⟩) ∨ (k ≤ i ∧ k ≤ n ∧ named b d.name = (n : Int) ∧ x = ⟨d.name, mixF d e⟩)) := by
  have fin : ∀ (jc : Nat) (y : Act) (n : Nat), c[jc]? = some y → actAt a jc y = (i : Int) → actAt b jc y = (n : Int) → ∃ e, b[n]? = some e ∧ accB d y.f = true ∧ accB e y.f = true := by
    intro jc y n hy h1 h2
    obtain ⟨q, d', g1, g2, g3⟩ := fa.acc jc y hy
    obtain ⟨q', e, g4, g5, g6⟩ := fb.acc jc y hy
    have e1 : q = i := by omega
    have e2 : q' = n := by omega
    subst e1; subst e2
    rw [hd] at g2; obtain rfl := Option.some.inj g2
    exact ⟨e, g5, g3, g6⟩
  rcases callOne_spec hc with ⟨hik, rfl⟩ | ⟨hik, rfl, hn⟩
  · have hlt : i < c.length := by omega
    have hy : c[i]? = some c[i] := List.getElem?_eq_getElem hlt
    have hkw := (hs i _ hy).2 hik
    obtain ⟨e, g1, g2, g3⟩ := fin i c[i] i hy (actAt_pos hkw) (actAt_pos hkw)
    refine ⟨i, c[i], i, e, hy, actAt_pos hkw, actAt_pos hkw, g1, g2, g3, .inl ⟨hik, rfl, ?_⟩⟩
    rw [featAt_some (by simpa using g1) (by omega)]; rfl
  · have main : ∃ jc y, ∃ n : Nat, c[jc]? = some y ∧ actAt a jc y = (i : Int) ∧ actAt b jc y = (n : Int) ∧ k ≤ n ∧ named b d.name = (n : Int) := by
      rcases hn with ho | ⟨hn1, hn2⟩
      · obtain ⟨jc, y, hy, hat⟩ := fa.cov i d hd ho
        have hkw : y.kw ≠ [] := by
          intro he
          have := (hs jc y hy).1 he
          rw [actAt_pos he] at hat; omega
        rw [actAt_kw hkw] at hat
        have hname : y.kw = d.name := by
          rcases named_cases a y.kw with ⟨h0, _⟩ | ⟨q, d', h1, h2, h3⟩
          · omega
          · have : q = i := by omega
            subst this
            rw [hd] at h2; obtain rfl := Option.some.inj h2
            exact h3.symm
        obtain ⟨n, e, h1, h2, h3⟩ := fb.acc jc y hy
        have h1' := h1
        rw [actAt_kw hkw, hname] at h1'
        refine ⟨jc, y, n, hy, by rw [actAt_kw hkw]; exact hat, h1, ?_, h1'⟩
        rcases Nat.lt_or_ge n k with hlt | hge
        · exfalso
          have hy2 : c[n]? = some c[n] := List.getElem?_eq_getElem (by omega)
          have hkw2 := (hs n _ hy2).2 hlt
          have := fb.inj jc n y c[n] hy hy2 (by rw [h1, actAt_pos hkw2])
          subst this
          rw [hy] at hy2
          exact hkw (by rw [Option.some.inj hy2]; exact hkw2)
        · exact hge
      · rcases named_cases b d.name with ⟨h0, _⟩ | ⟨n, e, h1, h2, h3⟩
        · omega
        · rw [h1, optAt_some (by simpa using h2)] at hn2
          obtain ⟨jc, y, hy, hat⟩ := fb.cov n e h2 hn2
          have hkw : y.kw ≠ [] := by
            intro he
            have := (hs jc y hy).1 he
            rw [actAt_pos he] at hat; omega
          have hname : y.kw = d.name := by
            rw [actAt_kw hkw] at hat
            rcases named_cases b y.kw with ⟨h0, _⟩ | ⟨q, e', g1, g2, g3⟩
            · omega
            · have : q = n := by omega
              subst this
              rw [h2] at g2; obtain rfl := Option.some.inj g2
              rw [← g3, h3]
          exact ⟨jc, y, n, hy, by rw [actAt_kw hkw, hname, ha.named hd], hat, by omega, h1⟩
    obtain ⟨jc, y, n, hy, g1, g2, g3, g4⟩ := main
    obtain ⟨e, g5, g6, g7⟩ := fin jc y n hy g1 g2
    refine ⟨jc, y, n, e, hy, g1, g2, g5, g6, g7, .inr ⟨hik, g3, g4, ?_⟩⟩
    rw [g4, featAt_some (by simpa using g5) (by omega)]; rfl

/-- A call that fits both procedures: their common call, with as many arguments without a keyword, fits both. -/
theorem common_fits (ha : Val a) (hb : Val b) (fa : Fit a c) (fb : Fit b c) (hk : k ≤ c.length) (hs : ∀ j x, c[j]? = some x → (x.kw = [] ↔ j < k)) : Fit a (callOfF b k a 0) ∧ Fit b (callOfF b k a 0) ∧ k ≤ a.length ∧ k ≤ b.length := by
  obtain ⟨σ, h1, h2, h3, h4, h5⟩ := callOf_src b k a 0
  have hat : ∀ j x, (callOfF b k a 0)[j]? = some x → actAt a j x = (σ j : Int) := fun j x hx => common_at ha h1 h4 h5 hx
  have hinj : ∀ j j' x x', (callOfF b k a 0)[j]? = some x → (callOfF b k a 0)[j']? = some x' → σ j = σ j' → j = j' := by
    intro j j' x x' hx hx' he
    rcases Nat.lt_trichotomy j j' with h | h | h
    · have := h2 j j' h (List.getElem?_eq_some_iff.1 hx').1; omega
    · exact h
    · have := h2 j' j h (List.getElem?_eq_some_iff.1 hx).1; omega
  -- all about one place
  have pl : ∀ j x, (callOfF b k a 0)[j]? = some x → ∃ d jc y, ∃ n : Nat, ∃ e, a[σ j]? = some d ∧ c[jc]? = some y ∧ actAt a jc y = (σ j : Int) ∧ actAt b jc y = (n : Int) ∧ b[n]? = some e ∧ accB d y.f = true ∧ accB e y.f = true ∧ x.f = mixF d e ∧ actAt b j x = (n : Int) := by
    intro j x hx
    obtain ⟨d, hd, hc⟩ := h1 j x hx
    rw [Nat.zero_add] at hc
    obtain ⟨jc, y, n, e, g1, g2, g3, g4, g5, g6, g7⟩ := partner ha hb fa fb hk hs hd hc
    refine ⟨d, jc, y, n, e, hd, g1, g2, g3, g4, g5, g6, ?_, ?_⟩
    · rcases g7 with ⟨_, _, rfl⟩ | ⟨_, _, _, rfl⟩ <;> rfl
    · rcases g7 with ⟨hlt, rfl, rfl⟩ | ⟨_, _, hn, rfl⟩
      · have := h5 j
        rw [actAt_pos rfl, h4 j (by omega) (List.getElem?_eq_some_iff.1 hx).1]
      · rw [actAt_kw (cap_ne (ha.cap d (List.mem_of_getElem? hd)))]; exact hn
  have hka : k ≤ a.length := by
    rcases Nat.eq_zero_or_pos k with h0 | h0
    · omega
    · have hy : c[k - 1]? = some c[k - 1] := List.getElem?_eq_getElem (by omega)
      have hkw := (hs _ _ hy).2 (by omega)
      obtain ⟨q, d, g1, g2, _⟩ := fa.acc _ _ hy
      rw [actAt_pos hkw] at g1
      have := (List.getElem?_eq_some_iff.1 g2).1
      omega
  have hkb : k ≤ b.length := by
    rcases Nat.eq_zero_or_pos k with h0 | h0
    · omega
    · have hy : c[k - 1]? = some c[k - 1] := List.getElem?_eq_getElem (by omega)
      have hkw := (hs _ _ hy).2 (by omega)
      obtain ⟨q, d, g1, g2, _⟩ := fb.acc _ _ hy
      rw [actAt_pos hkw] at g1
      have := (List.getElem?_eq_some_iff.1 g2).1
      omega
  refine ⟨⟨fun j x hx => ?_, fun j j' x x' hx hx' he => ?_, fun j j' x x' q q' d d' hx hx' hq hq' hd hd' k1 k2 k3 k4 => ?_, fun q d hd ho => ?_⟩, ⟨fun j x hx => ?_, fun j j' x x' hx hx' he => ?_, fun j j' x x' q q' d d' hx hx' hq hq' hd hd' k1 k2 k3 k4 => ?_, fun n e he ho => ?_⟩, hka, hkb⟩
  · obtain ⟨d, jc, y, n, e, g1, g2, g3, g4, g5, g6, g7, g8, g9⟩ := pl j x hx
    refine ⟨σ j, d, hat j x hx, g1, ?_⟩
    rw [accB_iff] at g6 g7 ⊢
    rw [g8, mixF]
    cases hel : d.elem with
    | true => simp only [if_true]; exact ⟨⟨by omega, by omega⟩, .inl (by trivial)⟩
    | false => simp
  · rw [hat j x hx, hat j' x' hx'] at he
    exact hinj j j' x x' hx hx' (by omega)
  · obtain ⟨d1, jc, y, n, e, g1, g2, g3, g4, g5, g6, g7, g8, g9⟩ := pl j x hx
    obtain ⟨d2, jc', y', n', e', f1, f2, f3, f4, f5, f6, f7, f8, f9⟩ := pl j' x' hx'
    rw [hat j x hx] at hq
    rw [hat j' x' hx'] at hq'
    have q1 : q = σ j := by omega
    have q2 : q' = σ j' := by omega
    subst q1; subst q2
    rw [hd] at g1; obtain rfl := Option.some.inj g1
    rw [hd'] at f1; obtain rfl := Option.some.inj f1
    rw [mixF, if_pos k1] at g8
    rw [mixF, if_pos k2] at f8
    rw [accB_iff] at g7 f7
    have r1 : e.elem = false := by
      cases he : e.elem with
      | false => rfl
      | true => have := hb.elem e (List.mem_of_getElem? g5) he; rw [g8] at k3; omega
    have r2 : e'.elem = false := by
      cases he : e'.elem with
      | false => rfl
      | true => have := hb.elem e' (List.mem_of_getElem? f5) he; rw [f8] at k4; omega
    have s1 : e.f.r = y.f.r := by rcases g7.2 with h | h; rw [r1] at h; cases h; exact h
    have s2 : e'.f.r = y'.f.r := by rcases f7.2 with h | h; rw [r2] at h; cases h; exact h
    rw [g8, f8, s1, s2]
    rw [g8] at k3; rw [f8] at k4
    exact fa.rank jc jc' y y' _ _ d d' g2 f2 g3 f3 hd hd' k1 k2 (by omega) (by omega)
  · have hc : ∃ x, callOne b k (0 + q) d = some x := by
      rw [Nat.zero_add]
      rcases Nat.lt_or_ge q k with h | h
      · exact ⟨_, callOne_pos h⟩
      · exact ⟨_, callOne_kw h (.inl ho)⟩
    obtain ⟨x, hc⟩ := hc
    obtain ⟨j, hj, hσ⟩ := h3 q d x hd hc
    exact ⟨j, x, hj, by rw [hat j x hj, hσ]⟩
  · obtain ⟨d, jc, y, n, e, g1, g2, g3, g4, g5, g6, g7, g8, g9⟩ := pl j x hx
    refine ⟨n, e, g9, g5, ?_⟩
    rw [accB_iff] at g6 g7 ⊢
    rw [g8, mixF]
    cases hel : d.elem with
    | true => simp
    | false =>
      simp only [Bool.false_eq_true, if_false]
      refine ⟨⟨by omega, by omega⟩, ?_⟩
      rcases g7.2 with h | h
      · exact .inl h
      · rcases g6.2 with h' | h'
        · rw [hel] at h'; cases h'
        · exact .inr (by omega)
  · obtain ⟨d1, jc, y, n, e, g1, g2, g3, g4, g5, g6, g7, g8, g9⟩ := pl j x hx
    obtain ⟨d2, jc', y', n', e', f1, f2, f3, f4, f5, f6, f7, f8, f9⟩ := pl j' x' hx'
    have hnn : n = n' := by omega
    subst hnn
    have hjj := fb.inj jc jc' y y' g2 f2 (by rw [g4, f4])
    subst hjj
    rw [g2] at f2; obtain rfl := Option.some.inj f2
    exact hinj j j' x x' hx hx' (by omega)
  · obtain ⟨d1, jc, y, n, e, g1, g2, g3, g4, g5, g6, g7, g8, g9⟩ := pl j x hx
    obtain ⟨d2, jc', y', n', e', f1, f2, f3, f4, f5, f6, f7, f8, f9⟩ := pl j' x' hx'
    have q1 : q = n := by omega
    have q2 : q' = n' := by omega
    subst q1; subst q2
    rw [hd] at g5; obtain rfl := Option.some.inj g5
    rw [hd'] at f5; obtain rfl := Option.some.inj f5
    rw [accB_iff] at g6 f6
    have r1 : d1.elem = false := by
      cases he : d1.elem with
      | false => rfl
      | true =>
        rw [mixF, if_pos he] at g8
        have := hb.elem d (List.mem_of_getElem? hd) k1; rw [g8] at k3; omega
    have r2 : d2.elem = false := by
      cases he : d2.elem with
      | false => rfl
      | true =>
        rw [mixF, if_pos he] at f8
        have := hb.elem d' (List.mem_of_getElem? hd') k2; rw [f8] at k4; omega
    rw [mixF, r1] at g8
    rw [mixF, r2] at f8
    simp only [Bool.false_eq_true, if_false] at g8 f8
    have s1 : d1.f.r = y.f.r := by rcases g6.2 with h | h; rw [r1] at h; cases h; exact h
    have s2 : d2.f.r = y'.f.r := by rcases f6.2 with h | h; rw [r2] at h; cases h; exact h
    rw [g8, f8, s1, s2]
    rw [g8] at k3; rw [f8] at k4
    exact fb.rank jc jc' y y' _ _ d d' g2 f2 g4 f4 hd hd' k1 k2 (by omega) (by omega)
  · rcases Nat.lt_or_ge n k with hlt | hge
    · have hd : a[n]? = some (a[n]'(by omega)) := List.getElem?_eq_getElem (by omega)
      obtain ⟨j, hj, hσ⟩ := h3 n _ _ hd (by rw [Nat.zero_add]; exact callOne_pos hlt)
      refine ⟨j, _, hj, ?_⟩
      have := h5 j
      rw [actAt_pos rfl]
      have := h4 j (by omega) (List.getElem?_eq_some_iff.1 hj).1
      omega
    · obtain ⟨jc, y, hy, hat'⟩ := fb.cov n e he ho
      have hkw : y.kw ≠ [] := by
        intro hke
        have := (hs jc y hy).1 hke
        rw [actAt_pos hke] at hat'; omega
      rw [actAt_kw hkw] at hat'
      have hname : y.kw = e.name := by
        rcases named_cases b y.kw with ⟨h0, _⟩ | ⟨q, e', g1, g2, g3⟩
        · omega
        · have : q = n := by omega
          subst this
          rw [he] at g2; obtain rfl := Option.some.inj g2
          exact g3.symm
      obtain ⟨i, d, g1, g2, g3⟩ := fa.acc jc y hy
      have g1' := g1
      rw [actAt_kw hkw] at g1
      have hdn : d.name = e.name := by
        rcases named_cases a y.kw with ⟨h0, _⟩ | ⟨q, d', f1, f2, f3⟩
        · omega
        · have : q = i := by omega
          subst this
          rw [g2] at f2; obtain rfl := Option.some.inj f2
          rw [f3, hname]
      have hik : k ≤ i := by
        rcases Nat.lt_or_ge i k with h | h
        · exfalso
          have hy2 : c[i]? = some c[i] := List.getElem?_eq_getElem (by omega)
          have hkw2 := (hs i _ hy2).2 h
          have := fa.inj jc i y c[i] hy hy2 (by rw [g1', actAt_pos hkw2])
          subst this
          rw [hy] at hy2
          exact hkw (by rw [Option.some.inj hy2]; exact hkw2)
        · exact h
      have hnb : named b d.name = (n : Int) := by rw [hdn]; exact hb.named he
      obtain ⟨j, hj, hσ⟩ := h3 i d _ g2 (by rw [Nat.zero_add]; exact callOne_kw hik (.inr ⟨by omega, by rw [hnb, optAt_some (by simpa using he)]; exact ho⟩))
      refine ⟨j, _, hj, ?_⟩
      rw [actAt_kw (cap_ne (ha.cap d (List.mem_of_getElem? g2)))]
      exact hnb
end

theorem srch_none_iff {α : Type} {f : Nat → Option α} : ∀ (k i : Nat), srch f k i = none → ∀ j, i ≤ j → j < i + k → f j = none
  | 0, i, _, j, h1, h2 => by omega
  | k + 1, i, h, j, h1, h2 => by
    rw [srch] at h
    split at h
    · cases h
    · rename_i h0
      rcases Nat.lt_or_ge i j with hlt | hge
      · exact srch_none_iff k (i + 1) h j (by omega) (by omega)
      · obtain rfl : j = i := by omega
        exact h0
/-- Where a call fits both procedures there is a common call. -/
theorem common_of_both {a b : Prc} {c : List Act} (ha : prcErr a = 0) (hb : prcErr b = 0) (hc : callErr c = 0) (fa : (matchF a c).isSome = true) (fb : (matchF b c).isSome = true) : (commonF a b).isSome = true := by
  obtain ⟨k, hk, hs⟩ := call_split hc
  obtain ⟨g1, g2, g3, g4⟩ := common_fits (val_of ha) (val_of hb) ((fit_iff a c).1 fa) ((fit_iff b c).1 fb) hk hs
  cases h : commonF a b with
  | some x => rfl
  | none =>
    have := srch_none_iff _ _ h k (Nat.zero_le _) (by omega)
    unfold cm at this
    rw [if_pos (by rw [(fit_iff a _).2 g1, (fit_iff b _).2 g2]; rfl)] at this
    cases this

/-- The common call is a valid call. -/
theorem common_valid {a b : Prc} (ha : prcErr a = 0) (hb : prcErr b = 0) {k : Nat} (hka : k ≤ a.ds.length) (hkb : k ≤ b.ds.length) : callErr (callOfF b.ds k a.ds 0) = 0 := by
  have va := val_of ha
  have vb := val_of hb
  obtain ⟨σ, h1, h2, h3, h4, h5⟩ := callOf_src b.ds k a.ds 0
  have hlen : (callOfF b.ds k a.ds 0).length ≤ 8 := Nat.le_trans (callOfF_len _ _ _ _) va.len
  have key : ∀ j x, (callOfF b.ds k a.ds 0)[j]? = some x → actBad (callOfF b.ds k a.ds 0) j x = 0 := by
    intro j x hx
    obtain ⟨d, hd, hc⟩ := h1 j x hx
    rw [Nat.zero_add] at hc
    have hdm := List.mem_of_getElem? hd
    have hfeat : ∀ n : Int, featErr (featAt d b.ds n) = 0 := by
      intro n
      unfold featAt
      split
      · cases hn : b.ds[n.toNat]? with
        | none => exact va.feat d hdm
        | some e => exact vb.feat e (List.mem_of_getElem? hn)
      · exact va.feat d hdm
    have hsp := callOne_spec hc
    -- earlier ones
    have hpre : ∀ y ∈ (callOfF b.ds k a.ds 0).take j, ∃ d', ∃ i' : Nat, a.ds[i']? = some d' ∧ i' < σ j ∧ callOne b.ds k i' d' = some y := by
      intro y hy
      obtain ⟨j', hj'⟩ := List.getElem?_of_mem hy
      have hlt : j' < j := by
        have := (List.getElem?_eq_some_iff.1 hj').1
        simp at this; omega
      rw [List.getElem?_take_of_lt hlt] at hj'
      obtain ⟨d', g1, g2⟩ := h1 j' y hj'
      rw [Nat.zero_add] at g2
      exact ⟨d', σ j', g1, h2 j' j hlt (List.getElem?_eq_some_iff.1 hx).1, g2⟩
    unfold actBad
    rw [orE_zero]
    intro v hv
    rcases List.mem_cons.1 hv with rfl | hv
    · rcases hsp with ⟨_, rfl⟩ | ⟨_, rfl, _⟩ <;> exact hfeat _
    · obtain rfl := List.mem_singleton.1 hv
      rw [broken_zero (by simp)]
      intro r hr
      simp only [List.mem_cons, List.not_mem_nil, or_false] at hr
      rcases hr with rfl | rfl | rfl
      · rcases hsp with ⟨_, rfl⟩ | ⟨_, rfl, _⟩
        · simp
        · simp [va.cap d hdm]
      · rcases hsp with ⟨hk, rfl⟩ | ⟨_, rfl, _⟩
        · have : decide (0 ≤ idx (fun y : Act => !(y.kw == [])) ((callOfF b.ds k a.ds 0).take j) 0) = false := by
            rw [idx_neg]
            intro y hy
            obtain ⟨d', i', g1, g2, g3⟩ := hpre y hy
            rw [callOne_pos (by omega)] at g3
            obtain rfl := Option.some.inj g3
            simp
          simp only [this]; rfl
        · have := cap_ne (va.cap d hdm)
          simp [this]
      · have : decide (0 ≤ idx (fun y : Act => !(x.kw == []) && (y.kw == x.kw)) ((callOfF b.ds k a.ds 0).take j) 0) = false := by
          rw [idx_neg]
          intro y hy
          obtain ⟨d', i', g1, g2, g3⟩ := hpre y hy
          rcases hsp with ⟨_, rfl⟩ | ⟨hk, rfl, _⟩
          · simp
          · have hne := cap_ne (va.cap d hdm)
            rcases callOne_spec g3 with ⟨_, rfl⟩ | ⟨_, rfl, _⟩
            · simp only [Bool.and_eq_false_iff]
              right
              exact beq_eq_false_iff_ne.2 (fun e => hne e.symm)
            · simp only [Bool.and_eq_false_iff]
              right
              refine beq_eq_false_iff_ne.2 (fun e => ?_)
              have := va.uniq _ _ _ _ g1 hd e
              omega
        simp only [this]; rfl
  unfold callErr callBad
  rw [if_neg (by simp; omega)]
  rw [firstBad_zero _ 0 (fun j x hx => by rw [Nat.zero_add]; exact key j x hx)]
end Go.Proofs.Ytloecggdboingaa
namespace Go.Proofs.Ytloecggdboingaa
open Go.RowKit Go.Proofs
set_option linter.unusedVariables false
set_option linter.unusedSimpArgs false

/-! ### Counting by places -/
def ids (g : Dum → Bool) : List Dum → Nat → List Nat
  | [], _ => []
  | d :: r, i => if g d = true then i :: ids g r (i + 1) else ids g r (i + 1)
theorem ids_len (g : Dum → Bool) : ∀ (l : List Dum) (i : Nat) (n : Int), countF g l n = n + (ids g l i).length
  | [], i, n => by simp [countF, ids]
  | d :: r, i, n => by
    rw [countF, ids]
    split
    · rw [ids_len g r (i + 1) (n + 1), List.length_cons]; omega
    · exact ids_len g r (i + 1) n
theorem ids_mem (g : Dum → Bool) : ∀ (l : List Dum) (i q : Nat), q ∈ ids g l i ↔ i ≤ q ∧ ∃ d, l[q - i]? = some d ∧ g d = true
  | [], i, q => by simp [ids]
  | d :: r, i, q => by
    have ih := ids_mem g r (i + 1) q
    have hs : i + 1 ≤ q → q - i = (q - (i + 1)) + 1 := fun h => by omega
    rw [ids]
    constructor
    · intro h
      have h' : q = i ∧ g d = true ∨ q ∈ ids g r (i + 1) := by
        split at h
        · rename_i hg
          rcases List.mem_cons.1 h with rfl | h
          · exact .inl ⟨rfl, hg⟩
          · exact .inr h
        · exact .inr h
      rcases h' with ⟨rfl, hg⟩ | h
      · exact ⟨Nat.le_refl _, d, by simp, hg⟩
      · obtain ⟨h1, e, h2, h3⟩ := ih.1 h
        exact ⟨by omega, e, by rw [hs h1]; simpa using h2, h3⟩
    · rintro ⟨h1, e, h2, h3⟩
      rcases Nat.lt_or_ge i q with hlt | hge
      · have : q ∈ ids g r (i + 1) := ih.2 ⟨hlt, e, by rw [hs hlt] at h2; simpa using h2, h3⟩
        split
        · exact List.mem_cons_of_mem _ this
        · exact this
      · obtain rfl : q = i := by omega
        simp at h2
        subst h2
        rw [if_pos h3]; exact List.mem_cons_self
theorem ids_nodup (g : Dum → Bool) : ∀ (l : List Dum) (i : Nat), (ids g l i).Nodup
  | [], i => by simp [ids]
  | d :: r, i => by
    rw [ids]
    split
    · rw [List.nodup_cons]
      exact ⟨fun h => by have := ((ids_mem g r (i + 1) i).1 h).1; omega, ids_nodup g r (i + 1)⟩
    · exact ids_nodup g r (i + 1)
theorem len_le : ∀ (A B : List Nat), A.Nodup → (∀ x ∈ A, x ∈ B) → A.length ≤ B.length
  | [], _, _, _ => Nat.zero_le _
  | x :: A, B, hn, hs => by
    rw [List.nodup_cons] at hn
    have hx := hs x List.mem_cons_self
    have := len_le A (B.erase x) hn.2 (fun y hy => (List.mem_erase_of_ne (fun e => hn.1 (by rw [← e]; exact hy))).2 (hs y (List.mem_cons_of_mem _ hy)))
    rw [List.length_erase_of_mem hx] at this
    have : 0 < B.length := List.length_pos_of_mem hx
    simp only [List.length_cons]; omega
theorem nodup_map {r : Nat → Nat} : ∀ (A : List Nat), A.Nodup → (∀ x ∈ A, ∀ y ∈ A, r x = r y → x = y) → (A.map r).Nodup
  | [], _, _ => by simp
  | x :: A, hn, hi => by
    rw [List.nodup_cons] at hn
    rw [List.map_cons, List.nodup_cons]
    refine ⟨fun h => ?_, nodup_map A hn.2 fun y hy z hz => hi y (List.mem_cons_of_mem _ hy) z (List.mem_cons_of_mem _ hz)⟩
    obtain ⟨y, hy, he⟩ := List.mem_map.1 h
    have := hi x List.mem_cons_self y (List.mem_cons_of_mem _ hy) he.symm
    subst this
    exact hn.1 hy

section
variable {a b : List Dum} {c : List Act} {k : Nat}
/-- What is counted in one procedure is answered in the other. -/
theorem count_le (fa : Fit a c) (fb : Fit b c) {g h : Dum → Bool} (hg : ∀ d, g d = true → d.opt = false) (hgh : ∀ d e (y : Act), g d = true → accB d y.f = true → accB e y.f = true → h e = true) : countF g a 0 ≤ countF h b 0 := by
  rw [ids_len g a 0 0, ids_len h b 0 0]
  have ex : ∀ q, ∃ n, q ∈ ids g a 0 → (n ∈ ids h b 0 ∧ ∃ j x, c[j]? = some x ∧ actAt a j x = ((q : Nat) : Int) ∧ actAt b j x = ((n : Nat) : Int)) := by
    intro q
    by_cases hq : q ∈ ids g a 0
    · obtain ⟨_, d, hd, hgd⟩ := (ids_mem g a 0 q).1 hq
      rw [Nat.sub_zero] at hd
      obtain ⟨j, x, hx, hat⟩ := fa.cov q d hd (hg d hgd)
      obtain ⟨q', d', h1, h2, h3⟩ := fa.acc j x hx
      have : q' = q := by omega
      subst this
      rw [hd] at h2; obtain rfl := Option.some.inj h2
      obtain ⟨n, e, h4, h5, h6⟩ := fb.acc j x hx
      exact ⟨n, fun _ => ⟨(ids_mem h b 0 n).2 ⟨Nat.zero_le _, e, by rw [Nat.sub_zero]; exact h5, hgh d e x hgd h3 h6⟩, j, x, hx, hat, h4⟩⟩
    · exact ⟨0, fun h => absurd h hq⟩
  obtain ⟨r, hr⟩ := Classical.axiomOfChoice ex
  have := len_le ((ids g a 0).map r) (ids h b 0) (nodup_map _ (ids_nodup g a 0) fun x hx y hy he => by
    obtain ⟨_, j, z, h1, h2, h3⟩ := hr x hx
    obtain ⟨_, j', z', h1', h2', h3'⟩ := hr y hy
    have := fb.inj j j' z z' h1 h1' (by rw [h3, h3', he])
    subst this
    rw [h1] at h1'; obtain rfl := Option.some.inj h1'
    omega) (fun x hx => by
    obtain ⟨y, hy, rfl⟩ := List.mem_map.1 hx
    exact (hr y hy).1)
  rw [List.length_map] at this
  omega
theorem feat_ext {f g : Feat} (h1 : f.t = g.t) (h2 : f.k = g.k) (h3 : f.r = g.r) : f = g := by cases f; cases g; simp at h1 h2 h3; rw [h1, h2, h3]
theorem comp_of {d e : Dum} {f : Feat} (h1 : accB d f = true) (h2 : accB e f = true) : compB d e = true := by
  rw [accB_iff] at h1 h2
  have : kindB d.f e.f = true := kindB_iff.2 ⟨by omega, by omega⟩
  unfold compB
  rw [this, Bool.true_and, Bool.or_eq_true, Bool.or_eq_true, decide_eq_true_eq]
  rcases h1.2 with h | h
  · exact .inl (.inl h)
  · rcases h2.2 with h' | h'
    · exact .inl (.inr h')
    · exact .inr (by omega)
/-- A rule and a call that fits both procedures exclude one another. -/
theorem rule_excl (ha : Val a) (hb : Val b) (fa : Fit a c) (fb : Fit b c) (hk : k ≤ c.length) (hs : ∀ j x, c[j]? = some x → (x.kw = [] ↔ j < k)) (d : Dst) (h1 : 0 ≤ d.first) : distB a b d = false := by
  unfold distB
  cases hf : a[d.first.toNat]? with
  | none => rfl
  | some first =>
    simp only
    by_cases k0 : d.kind = 0
    · rw [if_pos k0]
      cases he : first.elem with
      | true => rfl
      | false =>
        have := count_le fa fb (g := g1 first) (h := g2 first) (fun d h => by
          simp only [g1, Bool.and_eq_true, Bool.not_eq_true'] at h; exact h.1.1) (fun d e y hg hd hey => by
          simp only [g1, Bool.and_eq_true, Bool.not_eq_true', decide_eq_true_eq] at hg
          rw [accB_iff] at hd
          unfold g2
          have hfy : first.f = y.f := by
            rw [← hg.2]
            rcases hd.2 with h | h
            · rw [hg.1.2] at h; cases h
            · exact feat_ext hd.1.1 hd.1.2 h
          rw [hfy]; exact hey)
        simp only [Bool.not_false, Bool.true_and, decide_eq_false_iff_not]; omega
    · rw [if_neg k0]
      by_cases k1 : d.kind = 1
      · rw [if_pos k1]
        have := count_le fa fb (g := g3 first) (h := g4 first) (fun d h => by
          simp only [g3, Bool.and_eq_true, Bool.not_eq_true'] at h; exact h.1) (fun d e y hg hd hey => by
          simp only [g3, Bool.and_eq_true, Bool.not_eq_true'] at hg
          have hk' := kindB_iff.1 hg.2
          rw [accB_iff] at hd hey
          exact kindB_iff.2 ⟨by omega, by omega⟩)
        simp only [decide_eq_false_iff_not]; omega
      · rw [if_neg k1]
        cases hsn : a[d.second.toNat]? with
        | none => rfl
        | some second =>
          simp only
          split
          · rfl
          · rename_i hc
            simp only [Bool.or_eq_true, decide_eq_true_eq, not_or, Bool.not_eq_true] at hc
            obtain ⟨⟨ho1, ho2⟩, hord⟩ := hc
            rcases Nat.lt_or_ge d.first.toNat k with hlt | hge
            · -- the place is without a keyword
              have hy : c[d.first.toNat]? = some c[d.first.toNat] := List.getElem?_eq_getElem (by omega)
              have hkw := (hs _ _ hy).2 hlt
              obtain ⟨q, d', g1, g2, g3⟩ := fa.acc _ _ hy
              obtain ⟨n, e, f1, f2, f3⟩ := fb.acc _ _ hy
              rw [actAt_pos hkw] at g1 f1
              have e1 : q = d.first.toNat := by omega
              have e2 : n = d.first.toNat := by omega
              subst e2
              rw [e1, hf] at g2; obtain rfl := Option.some.inj g2
              have hcomp := comp_of g3 f3
              have hl : (decide ((b.length : Int) ≤ d.first)) = false := by
                have := (List.getElem?_eq_some_iff.1 f2).1
                simp; omega
              rw [hl, compAt_some f2, hcomp]; rfl
            · obtain ⟨jc, y, hy, hat⟩ := fa.cov _ second hsn ho2
              have hkw : y.kw ≠ [] := by
                intro he
                have := (hs jc y hy).1 he
                rw [actAt_pos he] at hat; omega
              have hname : y.kw = second.name := by
                rw [actAt_kw hkw] at hat
                rcases named_cases a y.kw with ⟨h0, _⟩ | ⟨q, d', g1, g2, g3⟩
                · omega
                · have : q = d.second.toNat := by omega
                  subst this
                  rw [hsn] at g2; obtain rfl := Option.some.inj g2
                  exact g3.symm
              obtain ⟨q, d', g1, g2, g3⟩ := fa.acc jc y hy
              have : q = d.second.toNat := by omega
              subst this
              rw [hsn] at g2; obtain rfl := Option.some.inj g2
              obtain ⟨n, e, f1, f2, f3⟩ := fb.acc jc y hy
              rw [actAt_kw hkw, hname] at f1
              have hcomp := comp_of g3 f3
              have hl : (decide (named b second.name < 0)) = false := by simp; omega
              rw [hl, f1, compAt_some (x := second) (n := (n : Int)) (y := e) (by simpa using f2), hcomp]; simp
end
/-- A rule that distinguishes, where it comes from. -/
theorem distF_spec {a b : Prc} {d : Dst} (h : distF a b = some d) : 0 ≤ d.first ∧ distB (sidesF a b d.side).1 (sidesF a b d.side).2 d = true := by
  obtain ⟨kind, _, _, h1⟩ := srch_some _ _ h
  obtain ⟨side, _, _, h2⟩ := srch_some _ _ h1
  obtain ⟨first, _, _, h3⟩ := srch_some _ _ h2
  obtain ⟨second, _, _, h4⟩ := srch_some _ _ h3
  unfold dS4 at h4
  split at h4
  · rename_i hd
    obtain rfl := Option.some.inj h4
    exact ⟨by simp, hd⟩
  · cases h4
theorem rules_exclude {a b : Prc} {c : List Act} {d : Dst} (ha : prcErr a = 0) (hb : prcErr b = 0) (hc : callErr c = 0) (h : distF a b = some d) : ¬ ((matchF a c).isSome = true ∧ (matchF b c).isSome = true) := by
  rintro ⟨fa, fb⟩
  obtain ⟨k, hk, hs⟩ := call_split hc
  obtain ⟨h1, h2⟩ := distF_spec h
  have fa := (fit_iff a c).1 fa
  have fb := (fit_iff b c).1 fb
  unfold sidesF at h2
  split at h2
  · rw [rule_excl (val_of ha) (val_of hb) fa fb hk hs d h1] at h2; cases h2
  · rw [rule_excl (val_of hb) (val_of ha) fb fa hk hs d h1] at h2; cases h2
theorem rules_no_common {a b : Prc} {d : Dst} (ha : prcErr a = 0) (hb : prcErr b = 0) (h : distF a b = some d) : commonF a b = none := by
  cases hc : commonF a b with
  | none => rfl
  | some x =>
    obtain ⟨k, h1, h2, rfl, h3, h4⟩ := commonF_spec hc
    exact absurd ⟨h3, h4⟩ (rules_exclude ha hb (common_valid ha hb h1 h2) h)
end Go.Proofs.Ytloecggdboingaa
namespace Go.Proofs.Ytloecggdboingaa
open Go.RowKit Go.Proofs
set_option linter.unusedVariables false
set_option linter.unusedSimpArgs false
attribute [local irreducible] PPure

theorem refDist_check {a b : Prc} {d : Dst} (h : refDist a b = some d) : checkDst a b d = 0 := by
  obtain ⟨kind, _, _, h1⟩ := srch_some _ _ h
  obtain ⟨side, _, _, h2⟩ := srch_some _ _ h1
  obtain ⟨first, _, _, h3⟩ := srch_some _ _ h2
  obtain ⟨second, _, _, h4⟩ := srch_some _ _ h3
  unfold rS4 at h4
  split at h4
  · rename_i hd
    obtain rfl := Option.some.inj h4
    exact hd
  · cases h4
theorem matchOf_ok {p : Prc} {c : List Act} (hp : prcErr p = 0) (hc : callErr c = 0) : matchOf p c = ((matchF p c).getD [], broken [((matchF p c).isSome, 12)]) := by
  have : orE [prcErr p, callErr c] = 0 := by rw [orE_two, if_pos hp, hc]
  rw [matchOf, if_pos this]
end Go.Proofs.Ytloecggdboingaa
namespace Go.Proofs.Ytloecggdboingaa
open Go.RowKit Go.Proofs
set_option linter.unusedVariables false
set_option linter.unusedSimpArgs false
attribute [local irreducible] PPure

theorem p37n (p : Prc) : PPure Try.prog 37 [encP p] (.int .i64 (prcErr p)) := by
  rcases Nat.lt_or_ge 8 p.ds.length with h | h
  · have h8 : (8 : Int) < (p.ds.length : Int) := by omega
    have h9 : decide ((p.ds.length : Int) ≤ 8) = false := by simp; omega
    have e : prcErr p = if isCap p.name = true then 8 else 4 := by
      have : broken [(isCap p.name, 4), (decide ((p.ds.length : Int) ≤ 8), 8)] = if isCap p.name = true then 8 else 4 := by
        simp only [broken, h9, Bool.false_eq_true, if_false]
      rw [prcErr, this, if_neg]
      split <;> decide
    simp only [encP]
    (refine ppure_of_T ok37 (by simp only [List.length_cons, List.length_nil]; decide) ?_; refine t_seq ?_)
    (have hNE := True.intro; have hC := True.intro; repeat' first
        | with_reducible refine k_seq ?_
        | with_reducible refine t_seq ?_
        | with_reducible refine t_reg ?_
        | with_reducible refine t_nil ?_
        | with_reducible refine t_skip ?_
        | with_reducible refine t_ret ?_
        | with_reducible refine k_seq_ret ?_
        | ((with_reducible apply te_val); exact rfl; (intro _ _ _ h; cases h); (focus (simp only [go_sem, hNE, h8]; first | done | exact rfl)))
        | ((with_reducible apply te_callS); (focus (simp only [go_sem, hNE, h8]; first | done | exact rfl)); (focus (simp only [go_sem, hNE, h8]; first | done | exact rfl)); (focus (simp only [go_sem, hNE, h8]; first | done | exact rfl)); (first | exact p76 _))
        | ((with_reducible apply te_box); (focus (simp only [go_sem, hNE, h8]; first | done | exact rfl)); exact rfl; (focus (simp only [go_sem, hNE, h8]; first | done | exact rfl)))
        | ((with_reducible apply t_cond); (focus (simp only [go_sem, hNE, h8]; first | done | exact rfl)))
        | (with_reducible intro hc; with_reducible exact Bool.noConfusion hc)
        | (with_reducible intro hc; have hC := And.intro hC hc))
    · have : isCap p.name = false := by simpa using hC
      (first | apply pend rs37 | apply pendN rs37); (focus (simp only [go_sem, e, this]; first | done | exact rfl)); (focus (simp only [go_sem, e, this]; first | done | exact rfl))
    · have : isCap p.name = true := by simpa using hC
      (first | apply pend rs37 | apply pendN rs37); (focus (simp only [go_sem, e, this]; first | done | exact rfl)); (focus (simp only [go_sem, e, this]; first | done | exact rfl))
  · exact p37 p (by omega)
theorem p31n (l : List Prc) (hl : l.length ≤ 1000) : PPure Try.prog 31 [.list .any (l.map encP)] (.tup [.int .i64 (itfBad l).1, .int .i64 (itfBad l).2]) := by
  (refine ppure_of_T ok31 (by simp only [List.length_cons, List.length_nil]; decide) ?_; refine t_seq ?_)
  (have hNE := True.intro; have hC := True.intro; repeat' first
      | with_reducible refine k_seq ?_
      | with_reducible refine t_seq ?_
      | with_reducible refine t_reg ?_
      | with_reducible refine t_nil ?_
      | with_reducible refine t_skip ?_
      | with_reducible refine t_ret ?_
      | with_reducible refine k_seq_ret ?_
      | with_reducible refine t_block ?_
      | ((with_reducible apply te_val); exact rfl; (intro _ _ _ h; cases h); (focus (simp only [go_sem, hNE]; first | done | exact rfl)))
      | ((with_reducible apply t_cond); (focus (simp only [go_sem, hNE]; first | done | exact rfl)))
      | (with_reducible intro hc; have hC := And.intro hC hc))
  · all_goals (apply pend rs31; (focus (simp only [go_sem, itfBad, *]; first | done | exact rfl)); (focus (simp only [go_sem, itfBad, *]; first | done | exact rfl | simp_all)))
  · rw [show itfBad l = firstBad (prcBad l) l 0 by simp only [itfBad, hc]; rfl]
    refine t_loop (fun k s => ∃ i : Nat, i + k = l.length ∧ firstBad (prcBad l) (l.drop i) i = firstBad (prcBad l) l 0 ∧ s.env 0 = .list .any (l.map encP) ∧ s.env 4 = .int .i64 i) l.length ?_ ?_
    · exact ⟨0, by omega, rfl, by simp only [go_sem], by simp only [go_sem]⟩
    · rintro k s ⟨i, hk, hr, h0, h4⟩
      by_cases hi : i < l.length
      · obtain ⟨x, hx, hd⟩ := at_list hi
        have hlt := lt_int hi
        have hw := wrap_next hi hl
        have hle := Int.le_of_lt hlt
        rw [hd] at hr
        (have hNE := True.intro; have hC := True.intro; repeat' first
            | with_reducible refine k_seq ?_
            | with_reducible refine t_seq ?_
            | with_reducible refine t_reg ?_
            | with_reducible refine t_nil ?_
            | with_reducible refine t_skip ?_
            | with_reducible refine t_ret ?_
            | with_reducible refine k_seq_ret ?_
            | with_reducible refine k_blk_ret ?_
            | with_reducible refine k_inv_ret ?_
            | with_reducible refine t_block ?_
            | ((with_reducible apply te_val); exact rfl; (intro _ _ _ h; cases h); (focus (simp only [go_sem, hNE, h0, h4, hlt, hle, hx, hw, encP]; first | done | exact rfl)))
            | ((with_reducible apply te_callS); (focus (simp only [go_sem, hNE, h0, h4, hlt, hle, hx, hw, encP]; first | done | exact rfl)); (focus (simp only [go_sem, hNE, h0, h4, hlt, hle, hx, hw, encP]; first | done | exact rfl)); (focus (simp only [go_sem, hNE, h0, h4, hlt, hle, hx, hw, encP]; first | done | exact rfl)); (first | exact p37n x))
            | ((with_reducible apply t_cond); (focus (simp only [go_sem, hNE, h0, h4, hlt, hle, hx, hw, encP]; first | done | exact rfl)))
            | (with_reducible intro hc; with_reducible exact Bool.noConfusion hc)
            | (with_reducible intro hc; have hC := And.intro hC hc))
        · have hp : ¬ prcErr x = 0 := by simpa using hc
          have hb : prcBad l i x = prcErr x := by simp [prcBad, orE, hp]
          rw [← hr, firstBad, if_neg (by rw [hb]; exact hp), hb]
          all_goals (apply pend rs31; (focus (simp only [go_sem, h0, h4, hx, *]; first | done | exact rfl)); (focus (simp only [go_sem, h0, h4, hx, *]; first | done | exact rfl | simp_all)))
        · have hp : prcErr x = 0 := by simpa using hc
          refine t_loop (fun k2 s => ∃ j : Nat, j + k2 = i ∧ idx (fun q : Prc => q.name == x.name) ((l.take i).drop j) j = idx (fun q : Prc => q.name == x.name) (l.take i) 0 ∧ s.env 0 = .list .any (l.map encP) ∧ s.env 4 = .int .i64 i ∧ s.env 6 = .int .i64 j) i ?_ ?_
          · exact ⟨0, by omega, rfl, by simp only [go_sem, h0], by simp only [go_sem, h4], by simp only [go_sem]⟩
          · rintro k2 s2 ⟨j, hk2, hr2, g0, g4, g6⟩
            by_cases hj : j < i
            · obtain ⟨y, hy, hyd⟩ := at_take hj (Nat.le_of_lt hi)
              have hjl := lt_int hj
              have hjl2 : (j : Int) < (l.length : Int) := by omega
              have hw2 := wrap_next hj (Nat.le_of_lt (Nat.lt_of_lt_of_le hi hl))
              rw [hyd] at hr2
              (have hNE := True.intro; have hC := True.intro; repeat' first
                  | ((with_reducible apply te_drwA); (focus (simp only [effFlA, List.map_cons, List.map_nil]; exact rfl)); (focus decide +kernel))
                  | with_reducible refine k_seq ?_
                  | with_reducible refine t_seq ?_
                  | with_reducible refine t_reg ?_
                  | with_reducible refine t_nil ?_
                  | with_reducible refine t_skip ?_
                  | with_reducible refine t_ret ?_
                  | with_reducible refine k_seq_ret ?_
                  | with_reducible refine k_blk_ret ?_
                  | with_reducible refine k_blk ?_
                  | with_reducible refine k_inv_ret ?_
                  | with_reducible refine t_block ?_
                  | with_reducible refine m_nil ?_
                  | ((with_reducible apply te_val); exact rfl; (intro _ _ _ h; cases h); (focus (simp only [go_sem, hNE, g0, g4, g6, hjl, hjl2, hlt, hle, hx, hy, hw, hw2, encP]; first | done | exact rfl)))
                  | ((with_reducible apply me_val); exact rfl; (intro _ _ _ h; cases h); (focus (simp only [go_sem, hNE, g0, g4, g6, hjl, hjl2, hlt, hle, hx, hy, hw, hw2, encP]; first | done | exact rfl)))
                  | ((with_reducible apply t_cond); (focus (simp only [go_sem, hNE, g0, g4, g6, hjl, hjl2, hlt, hle, hx, hy, hw, hw2, encP]; first | done | exact rfl)))
                  | (with_reducible intro hc; with_reducible exact Bool.noConfusion hc)
                  | (with_reducible intro hc; have hC := And.intro hC hc))
              · have hix : idx (fun q : Prc => q.name == x.name) (l.take i) 0 = (j : Int) := by rw [← hr2]; simp only [idx, hc, if_true]
                have hb : prcBad l i x = 5 := by unfold prcBad; rw [hix, hp]; simp [orE, broken]
                rw [← hr, firstBad, if_neg (by rw [hb]; decide), hb]
                all_goals (apply pend rs31; (focus (simp only [go_sem, g0, g4, g6, *]; first | done | exact rfl)); (focus (simp only [go_sem, g0, g4, g6, *]; first | done | exact rfl | simp_all)))
              · refine k_inv (k2 - 1) (by omega) ⟨j + 1, by omega, ?_, by simp only [go_sem, g0], by simp only [go_sem, g4], by simp only [go_sem, g6, hw2]⟩
                rw [← hr2]; simp only [idx, hc, Bool.false_eq_true, if_false]; rfl
            · have hjl : ((j : Int) < (i : Int)) = False := nlt_int hj
              rw [at_take_end hj] at hr2
              (have hNE := True.intro; have hC := True.intro; repeat' first
                  | with_reducible refine k_seq ?_
                  | with_reducible refine t_seq ?_
                  | with_reducible refine t_reg ?_
                  | with_reducible refine t_nil ?_
                  | with_reducible refine t_exit ?_
                  | with_reducible refine k_seq_exit ?_
                  | with_reducible refine k_blk_exit ?_
                  | with_reducible refine k_blk ?_
                  | with_reducible refine k_inv_exit ?_
                  | ((with_reducible apply te_val); exact rfl; (intro _ _ _ h; cases h); (focus (simp only [go_sem, hNE, g0, g4, g6, hjl, hlt, hle, hx, hw, encP]; first | done | exact rfl)))
                  | ((with_reducible apply t_cond); (focus (simp only [go_sem, hNE, g0, g4, g6, hjl, hlt, hle, hx, hw, encP]; first | done | exact rfl)))
                  | (with_reducible intro hc; with_reducible exact Bool.noConfusion hc)
                  | (with_reducible intro hc; have hC := And.intro hC hc))
              refine k_inv (k - 1) (by omega) ⟨i + 1, by omega, ?_, by simp only [go_sem, g0], by simp only [go_sem, g4, hw]⟩
              have hb : prcBad l i x = 0 := by unfold prcBad; rw [← hr2, hp]; simp [orE, broken, idx]
              rw [← hr, firstBad, if_pos hb]
      · have hlt := nlt_int hi
        rw [at_end hi] at hr
        (have hNE := True.intro; have hC := True.intro; repeat' first
            | with_reducible refine k_seq ?_
            | with_reducible refine t_seq ?_
            | with_reducible refine t_reg ?_
            | with_reducible refine t_nil ?_
            | with_reducible refine t_ret ?_
            | with_reducible refine t_exit ?_
            | with_reducible refine k_seq_exit ?_
            | with_reducible refine k_blk_exit ?_
            | with_reducible refine k_inv_exit ?_
            | ((with_reducible apply te_val); exact rfl; (intro _ _ _ h; cases h); (focus (simp only [go_sem, hNE, h0, h4, hlt]; first | done | exact rfl)))
            | ((with_reducible apply t_cond); (focus (simp only [go_sem, hNE, h0, h4, hlt]; first | done | exact rfl)))
            | (with_reducible intro hc; with_reducible exact Bool.noConfusion hc)
            | (with_reducible intro hc; have hC := And.intro hC hc))
        rw [← hr]
        all_goals (apply pend rs31; (focus (simp only [go_sem, firstBad, *]; first | done | exact rfl)); (focus (simp only [go_sem, firstBad, *]; first | done | exact rfl | simp_all)))
theorem itfBad_large {l : List Prc} (h : 8 < l.length) : itfBad l = (0, 8) := by
  unfold itfBad; rw [if_pos]; simp; omega
theorem p19n (l : List Prc) (hl : l.length ≤ 1000) : PPure Try.prog 19 [.list .any (l.map encP)] (.int .i64 (itfErr l)) := by
  (refine ppure_of_T ok19 (by simp only [List.length_cons, List.length_nil]; decide) ?_; refine t_seq ?_)
  (have hNE := True.intro; have hC := True.intro; repeat' first
      | with_reducible refine k_seq ?_
      | with_reducible refine t_seq ?_
      | with_reducible refine t_reg ?_
      | with_reducible refine t_nil ?_
      | with_reducible refine t_ret ?_
      | ((with_reducible apply te_val); exact rfl; (intro _ _ _ h; cases h); (focus (simp only [go_sem, hNE]; first | done | exact rfl)))
      | ((with_reducible apply te_callS); (focus (simp only [go_sem, hNE]; first | done | exact rfl)); (focus (simp only [go_sem, hNE]; first | done | exact rfl)); (focus (simp only [go_sem, hNE]; first | done | exact rfl)); (first | exact p31n l hl)))
  (first | apply pend rs19 | apply pendN rs19); (focus (simp only [go_sem, itfErr]; first | done | exact rfl)); (focus (simp only [go_sem, itfErr]; first | done | exact rfl))
theorem p20n (c : List Act) : PPure Try.prog 20 [.list .any (c.map encA)] (.int .i64 (callErr c)) := by
  rcases Nat.lt_or_ge 8 c.length with h | h
  · have h8 : (8 : Int) < (c.length : Int) := by omega
    have e : callErr c = 8 := by unfold callErr callBad; rw [if_pos (by simp; omega)]
    have q32 : PPure Try.prog 32 [.list .any (c.map encA)] (.tup [.int .i64 0, .int .i64 8]) := by
      (refine ppure_of_T ok32 (by simp only [List.length_cons, List.length_nil]; decide) ?_; refine t_seq ?_)
      (have hNE := True.intro; have hC := True.intro; repeat' first
          | with_reducible refine k_seq ?_
          | with_reducible refine t_seq ?_
          | with_reducible refine t_reg ?_
          | with_reducible refine t_nil ?_
          | with_reducible refine t_ret ?_
          | with_reducible refine k_seq_ret ?_
          | ((with_reducible apply te_val); exact rfl; (intro _ _ _ h; cases h); (focus (simp only [go_sem, hNE, h8]; first | done | exact rfl)))
          | ((with_reducible apply t_cond); (focus (simp only [go_sem, hNE, h8]; first | done | exact rfl)))
          | (with_reducible intro hc; with_reducible exact Bool.noConfusion hc)
          | (with_reducible intro hc; have hC := And.intro hC hc))
      (first | apply pend rs32 | apply pendN rs32); (focus (simp only [go_sem]; first | done | exact rfl)); (focus (simp only [go_sem]; first | done | exact rfl))
    (refine ppure_of_T ok20 (by simp only [List.length_cons, List.length_nil]; decide) ?_; refine t_seq ?_)
    (have hNE := True.intro; have hC := True.intro; repeat' first
        | with_reducible refine k_seq ?_
        | with_reducible refine t_seq ?_
        | with_reducible refine t_reg ?_
        | with_reducible refine t_nil ?_
        | with_reducible refine t_ret ?_
        | ((with_reducible apply te_val); exact rfl; (intro _ _ _ h; cases h); (focus (simp only [go_sem, hNE]; first | done | exact rfl)))
        | ((with_reducible apply te_callS); (focus (simp only [go_sem, hNE]; first | done | exact rfl)); (focus (simp only [go_sem, hNE]; first | done | exact rfl)); (focus (simp only [go_sem, hNE]; first | done | exact rfl)); (first | exact q32)))
    (first | apply pend rs20 | apply pendN rs20); (focus (simp only [go_sem, e]; first | done | exact rfl)); (focus (simp only [go_sem, e]; first | done | exact rfl))
  · exact p20 c (by omega)
theorem p89 (b : Bool) : PPure Try.prog 89 [.bool b] (.int .i64 (if b = true then 1 else 0)) := by
  cases b with
  | false =>
    (refine ppure_of_T ok89 (by simp only [List.length_cons, List.length_nil]; decide) ?_; refine t_seq ?_)
    (have hNE := True.intro; have hC := True.intro; repeat' first
        | with_reducible refine k_seq ?_
        | with_reducible refine t_seq ?_
        | with_reducible refine t_reg ?_
        | with_reducible refine t_nil ?_
        | with_reducible refine t_skip ?_
        | with_reducible refine t_ret ?_
        | ((with_reducible apply te_val); exact rfl; (intro _ _ _ h; cases h); (focus (simp only [go_sem, hNE]; first | done | exact rfl)))
        | ((with_reducible apply t_cond); (focus (simp only [go_sem, hNE]; first | done | exact rfl)))
        | (with_reducible intro hc; with_reducible exact Bool.noConfusion hc)
        | (with_reducible intro hc; have hC := And.intro hC hc))
    (first | apply pend rs89 | apply pendN rs89); (focus (simp only [go_sem]; first | done | exact rfl)); (focus (simp only [go_sem]; first | done | exact rfl))
  | true =>
    (refine ppure_of_T ok89 (by simp only [List.length_cons, List.length_nil]; decide) ?_; refine t_seq ?_)
    (have hNE := True.intro; have hC := True.intro; repeat' first
        | with_reducible refine k_seq ?_
        | with_reducible refine t_seq ?_
        | with_reducible refine t_reg ?_
        | with_reducible refine t_nil ?_
        | with_reducible refine t_ret ?_
        | ((with_reducible apply te_val); exact rfl; (intro _ _ _ h; cases h); (focus (simp only [go_sem, hNE]; first | done | exact rfl)))
        | ((with_reducible apply t_cond); (focus (simp only [go_sem, hNE]; first | done | exact rfl)))
        | (with_reducible intro hc; with_reducible exact Bool.noConfusion hc)
        | (with_reducible intro hc; have hC := And.intro hC hc))
    (first | apply pend rs89 | apply pendN rs89); (focus (simp only [go_sem]; first | done | exact rfl)); (focus (simp only [go_sem]; first | done | exact rfl))
theorem p48 (n : Int) (m : Nat) (h0 : 0 < m) (hm : m ≤ 1000) : PPure Try.prog 48 [.int .i64 n, .int .i64 (m : Int)] (.int .i64 (n % (m : Int))) := by
  have hz : ((m : Int) = 0) = False := eq_false (by omega)
  have q := p89 (decide (n.tmod (m : Int) < 0))
  have hb : n.tmod (m : Int) = n % (m : Int) ∨ (n.tmod (m : Int) < 0 ∧ n.tmod (m : Int) + m = n % (m : Int)) := by
    rw [Int.tmod_eq_emod]
    split
    · left; omega
    · rename_i hc
      right
      have h1 := Int.emod_nonneg n (show (m : Int) ≠ 0 by omega)
      have h2 := Int.emod_lt_of_pos n (show (0 : Int) < m by omega)
      have h3 : ((m : Int).natAbs : Int) = m := by omega
      omega
  have hb1 := Int.emod_nonneg n (show (m : Int) ≠ 0 by omega)
  have hb2 := Int.emod_lt_of_pos n (show (0 : Int) < m by omega)
  have hw : IntKind.i64.wrap (n.tmod (m : Int) + IntKind.i64.wrap ((m : Int) * (if decide (n.tmod (m : Int) < 0) = true then 1 else 0))) = n % (m : Int) := by
    rw [IntKind.wrap_i64, IntKind.wrap_i64]
    rcases hb with h | ⟨h, h'⟩
    · rw [if_neg (by simp; omega)]; omega
    · rw [if_pos (by simp; omega)]; omega
  (refine ppure_of_T ok48 (by simp only [List.length_cons, List.length_nil]; decide) ?_; refine t_seq ?_)
  (have hNE := True.intro; have hC := True.intro; repeat' first
      | ((with_reducible apply te_drwA); (focus (simp only [effFlA, List.map_cons, List.map_nil]; exact rfl)); (focus decide +kernel))
      | with_reducible refine k_seq ?_
      | with_reducible refine t_seq ?_
      | with_reducible refine t_reg ?_
      | with_reducible refine t_nil ?_
      | with_reducible refine t_ret ?_
      | with_reducible refine m_nil ?_
      | ((with_reducible apply te_val); exact rfl; (intro _ _ _ h; cases h); (focus (simp only [go_sem, hNE, hz, hw]; first | done | exact rfl)))
      | ((with_reducible apply me_val); exact rfl; (intro _ _ _ h; cases h); (focus (simp only [go_sem, hNE, hz, hw]; first | done | exact rfl)))
      | ((with_reducible apply me_callS); (focus (simp only [go_sem, hNE, hz, hw]; first | done | exact rfl)); (focus (simp only [go_sem, hNE, hz, hw]; first | done | exact rfl)); (focus (simp only [go_sem, hNE, hz, hw]; first | done | exact rfl)); (first | exact q)))
  all_goals trace_state
  (first | apply pend rs48 | apply pendN rs48); (focus (simp only [go_sem]; first | done | exact rfl)); (focus (simp only [go_sem]; first | done | exact rfl))
end Go.Proofs.Ytloecggdboingaa
namespace Go.Proofs.Ytloecggdboingaa
open Go.RowKit Go.Proofs
set_option linter.unusedVariables false
set_option linter.unusedSimpArgs false

theorem nodup_mapG {α β : Type} {r : α → β} : ∀ (A : List α), A.Nodup → (∀ x ∈ A, ∀ y ∈ A, r x = r y → x = y) → (A.map r).Nodup
  | [], _, _ => by simp
  | x :: A, hn, hi => by
    rw [List.nodup_cons] at hn
    rw [List.map_cons, List.nodup_cons]
    refine ⟨fun h => ?_, nodup_mapG A hn.2 fun y hy z hz => hi y (List.mem_cons_of_mem _ hy) z (List.mem_cons_of_mem _ hz)⟩
    obtain ⟨y, hy, he⟩ := List.mem_map.1 h
    have := hi x List.mem_cons_self y (List.mem_cons_of_mem _ hy) he.symm
    subst this
    exact hn.1 hy
theorem itf_iff (l : List Prc) : itfErr l = 0 ↔ l.length ≤ 8 ∧ (∀ p ∈ l, prcErr p = 0) ∧ (l.map (·.name)).Nodup := by
  constructor
  · intro h
    have hall := itfErr_all h
    unfold itfErr itfBad at h
    split at h
    · simp at h
    · rename_i h8
      refine ⟨by simp at h8; omega, hall, ?_⟩
      rw [List.Nodup, List.pairwise_iff_getElem]
      intro i j hi hj hlt he
      simp only [List.length_map] at hi hj
      simp only [List.getElem_map] at he
      have := firstBad_at l 0 h j l[j] (List.getElem?_eq_getElem hj)
      rw [Nat.zero_add] at this
      unfold prcBad at this
      rw [orE_zero] at this
      have h2 := this _ (List.mem_cons_of_mem _ List.mem_cons_self)
      rw [broken_zero (by simp)] at h2
      have h3 := h2 _ List.mem_cons_self
      simp only [Bool.not_eq_true'] at h3
      have h4 := idx_neg.1 h3 l[i] (List.mem_of_getElem? (by rw [List.getElem?_take_of_lt hlt]; exact List.getElem?_eq_getElem hi))
      simp [he] at h4
  · rintro ⟨h1, h2, h3⟩
    unfold itfErr itfBad
    rw [if_neg (by simp; omega), firstBad_zero]
    intro j x hx
    rw [Nat.zero_add]
    unfold prcBad
    rw [orE_two, if_pos (h2 x (List.mem_of_getElem? hx)), broken_zero (by simp)]
    intro r hr
    rcases List.mem_cons.1 hr with rfl | hr
    · simp only [Bool.not_eq_true']
      rw [idx_neg]
      intro y hy
      obtain ⟨i, hi⟩ := List.getElem?_of_mem hy
      have hlt : i < j := by
        have := (List.getElem?_eq_some_iff.1 hi).1
        simp at this; omega
      rw [List.getElem?_take_of_lt hlt] at hi
      refine beq_eq_false_iff_ne.2 fun he => ?_
      rw [List.Nodup, List.pairwise_iff_getElem] at h3
      have hi' := (List.getElem?_eq_some_iff.1 hi)
      have hx' := (List.getElem?_eq_some_iff.1 hx)
      refine h3 i j (by simpa using hi'.1) (by simpa using hx'.1) hlt ?_
      simp only [List.getElem_map, hi'.2, hx'.2]; exact he
    · cases hr
theorem cand_none {c : List Act} : ∀ (l : List Prc) (i : Nat), (∀ p ∈ l, (matchF p c).isSome = false) → candF c l i = []
  | [], _, _ => rfl
  | p :: r, i, h => by
    rw [candF, h p List.mem_cons_self]
    exact cand_none r (i + 1) fun q hq => h q (List.mem_cons_of_mem _ hq)
theorem cand_mem {c : List Act} : ∀ (l : List Prc) (i : Nat) (v : Int), v ∈ candF c l i ↔ ∃ q p, l[q]? = some p ∧ (matchF p c).isSome = true ∧ v = ((i + q : Nat) : Int)
  | [], i, v => by simp [candF]
  | p :: r, i, v => by
    have ih := cand_mem (c := c) r (i + 1) v
    rw [candF]
    constructor
    · intro h
      have h' : ((matchF p c).isSome = true ∧ v = (i : Int)) ∨ v ∈ candF c r (i + 1) := by
        split at h
        · rename_i hm
          rcases List.mem_cons.1 h with rfl | h
          · exact .inl ⟨hm, rfl⟩
          · exact .inr h
        · exact .inr h
      rcases h' with ⟨hm, rfl⟩ | h
      · exact ⟨0, p, rfl, hm, rfl⟩
      · obtain ⟨q, p', h1, h2, h3⟩ := ih.1 h
        exact ⟨q + 1, p', by simpa using h1, h2, by rw [h3]; congr 1; omega⟩
    · rintro ⟨q, p', h1, h2, h3⟩
      cases q with
      | zero =>
        simp at h1; subst h1
        rw [if_pos h2, h3]
        exact List.mem_cons_self
      | succ q =>
        have : v ∈ candF c r (i + 1) := ih.2 ⟨q, p', by simpa using h1, h2, by rw [h3]; congr 1; omega⟩
        split
        · exact List.mem_cons_of_mem _ this
        · exact this
theorem cand_nodup {c : List Act} : ∀ (l : List Prc) (i : Nat), (candF c l i).Nodup
  | [], _ => by simp [candF]
  | p :: r, i => by
    rw [candF]
    split
    · rw [List.nodup_cons]
      refine ⟨fun h => ?_, cand_nodup r (i + 1)⟩
      obtain ⟨q, _, _, _, h3⟩ := (cand_mem r (i + 1) i).1 h
      omega
    · exact cand_nodup r (i + 1)
/-- One procedure that the call fits, no other. -/
theorem cand_one {c : List Act} {l : List Prc} {n : Nat} {p : Prc} (hp : l[n]? = some p) (hm : (matchF p c).isSome = true) (hu : ∀ q p', l[q]? = some p' → (matchF p' c).isSome = true → q = n) : candF c l 0 = [(n : Int)] := by
  have h1 : ((n : Nat) : Int) ∈ candF c l 0 := (cand_mem l 0 _).2 ⟨n, p, hp, hm, by rw [Nat.zero_add]⟩
  have h2 : ∀ v ∈ candF c l 0, v = (n : Int) := by
    intro v hv
    obtain ⟨q, p', g1, g2, g3⟩ := (cand_mem l 0 v).1 hv
    rw [g3, Nat.zero_add, hu q p' g1 g2]
  have h3 := cand_nodup (c := c) l 0
  cases hc : candF c l 0 with
  | nil => rw [hc] at h1; cases h1
  | cons v r =>
    rw [hc] at h2 h3
    have hv := h2 v List.mem_cons_self
    subst hv
    cases r with
    | nil => rfl
    | cons v2 r =>
      have := h2 v2 (List.mem_cons_of_mem _ List.mem_cons_self)
      subst this
      rw [List.nodup_cons] at h3
      exact absurd List.mem_cons_self h3.1
theorem cand_one_inv {c : List Act} {l : List Prc} {v : Int} (h : candF c l 0 = [v]) : ∃ n p, v = ((n : Nat) : Int) ∧ l[n]? = some p ∧ (matchF p c).isSome = true ∧ ∀ q p', l[q]? = some p' → (matchF p' c).isSome = true → q = n := by
  have h1 : v ∈ candF c l 0 := by rw [h]; exact List.mem_cons_self
  obtain ⟨n, p, g1, g2, g3⟩ := (cand_mem l 0 v).1 h1
  rw [Nat.zero_add] at g3
  refine ⟨n, p, g3, g1, g2, fun q p' hq hm => ?_⟩
  have : ((q : Nat) : Int) ∈ candF c l 0 := (cand_mem l 0 _).2 ⟨q, p', hq, hm, by rw [Nat.zero_add]⟩
  rw [h] at this
  have := List.mem_singleton.1 this
  omega
theorem pair_none {g : Prc → Prc → Bool} {l : List Prc} (h : pairF g l = none) {i k : Nat} {a b : Prc} (hlt : i < k) (ha : l[i]? = some a) (hb : l[k]? = some b) : g a b = false := by
  have hk : k < l.length := (List.getElem?_eq_some_iff.1 hb).1
  have h1 := srch_none_iff _ _ h i (Nat.zero_le _) (by omega)
  unfold pairR at h1
  rw [ha] at h1
  have h2 := srch_none_iff _ _ h1 (k - (i + 1)) (Nat.zero_le _) (by omega)
  unfold pairK at h2
  rw [show i + 1 + (k - (i + 1)) = k by omega, hb] at h2
  simp only at h2
  split at h2
  · cases h2
  · rename_i hg; simpa using hg
theorem pair_some {g : Prc → Prc → Bool} {l : List Prc} {x : Int × Int} (h : pairF g l = some x) : ∃ (i k : Nat) (a b : Prc), i < k ∧ l[i]? = some a ∧ l[k]? = some b ∧ g a b = true := by
  obtain ⟨i, _, _, h1⟩ := srch_some _ _ h
  unfold pairR at h1
  cases ha : l[i]? with
  | none => rw [ha] at h1; cases h1
  | some a =>
    rw [ha] at h1
    obtain ⟨k, _, _, h2⟩ := srch_some _ _ h1
    unfold pairK at h2
    cases hb : l[i + 1 + k]? with
    | none => rw [hb] at h2; cases h2
    | some b =>
      rw [hb] at h2
      simp only at h2
      split at h2
      · rename_i hg; exact ⟨i, i + 1 + k, a, b, by omega, ha, hb, hg⟩
      · cases h2
/-! ### The procedures in another order, and all but one -/
def atL (l : List Prc) (j : Nat) : Prc := (l[j]?).getD ⟨[], []⟩
def turnL (l : List Prc) (t i : Nat) : List Prc := (List.range i).map fun j => atL l ((j + t) % l.length)
def othersL (l : List Prc) (n i : Nat) : List Prc := ((List.range i).filter fun j => decide (j ≠ n)).map (atL l)
theorem atL_some {l : List Prc} {j : Nat} (h : j < l.length) : l[j]? = some (atL l j) := by
  unfold atL; rw [List.getElem?_eq_getElem h]; rfl
theorem atL_mem {l : List Prc} {j : Nat} (h : j < l.length) : atL l j ∈ l := List.mem_of_getElem? (atL_some h)
theorem turnL_succ (l : List Prc) (t i : Nat) : turnL l t (i + 1) = turnL l t i ++ [atL l ((i + t) % l.length)] := by
  unfold turnL; rw [List.range_succ, List.map_append]; rfl
theorem othersL_succ (l : List Prc) (n i : Nat) : othersL l n (i + 1) = othersL l n i ++ (if i = n then [] else [atL l i]) := by
  unfold othersL
  rw [List.range_succ, List.filter_append, List.map_append]
  congr 1
  by_cases h : i = n <;> simp [h]
theorem turnL_get {l : List Prc} {t i j : Nat} (h : j < i) : (turnL l t i)[j]? = some (atL l ((j + t) % l.length)) := by
  unfold turnL; rw [List.getElem?_map, List.getElem?_range h]; rfl
theorem name_inj {l : List Prc} (h : itfErr l = 0) {i j : Nat} (hi : i < l.length) (hj : j < l.length) (he : (atL l i).name = (atL l j).name) : i = j := by
  have hn := ((itf_iff l).1 h).2.2
  rw [List.Nodup, List.pairwise_iff_getElem] at hn
  have e1 : atL l i = l[i] := by have := atL_some hi; rw [List.getElem?_eq_getElem hi] at this; exact (Option.some.inj this).symm
  have e2 : atL l j = l[j] := by have := atL_some hj; rw [List.getElem?_eq_getElem hj] at this; exact (Option.some.inj this).symm
  rcases Nat.lt_trichotomy i j with hlt | heq | hgt
  · exact (hn i j (by simpa using hi) (by simpa using hj) hlt (by rw [List.getElem_map, List.getElem_map, ← e1, ← e2, he])).elim
  · exact heq
  · exact (hn j i (by simpa using hj) (by simpa using hi) hgt (by rw [List.getElem_map, List.getElem_map, ← e1, ← e2, he])).elim
theorem rot_inj {N t i j : Nat} (hN : N ≤ 6) (hi : i < N) (hj : j < N) (he : (i + t) % N = (j + t) % N) : i = j := by
  have h : N = 1 ∨ N = 2 ∨ N = 3 ∨ N = 4 ∨ N = 5 ∨ N = 6 := by omega
  rcases h with rfl | rfl | rfl | rfl | rfl | rfl <;> omega
theorem rot_ex {N t n : Nat} (hN : N ≤ 6) (hn : n < N) : ∃ m, m < N ∧ (m + t) % N = n := by
  have h : N = 1 ∨ N = 2 ∨ N = 3 ∨ N = 4 ∨ N = 5 ∨ N = 6 := by omega
  rcases h with rfl | rfl | rfl | rfl | rfl | rfl
  · exact ⟨0, by omega, by omega⟩
  · exact ⟨(n + 2 - t % 2) % 2, by omega, by omega⟩
  · exact ⟨(n + 3 - t % 3) % 3, by omega, by omega⟩
  · exact ⟨(n + 4 - t % 4) % 4, by omega, by omega⟩
  · exact ⟨(n + 5 - t % 5) % 5, by omega, by omega⟩
  · exact ⟨(n + 6 - t % 6) % 6, by omega, by omega⟩
theorem turn_ok {l : List Prc} (h : itfErr l = 0) (h6 : l.length ≤ 6) (t : Nat) : itfErr (turnL l t l.length) = 0 := by
  refine (itf_iff _).2 ⟨by unfold turnL; simp; omega, fun p hp => ?_, ?_⟩
  · unfold turnL at hp
    obtain ⟨j, hj, rfl⟩ := List.mem_map.1 hp
    have hj' : j < l.length := by simpa using hj
    exact itfErr_all h _ (atL_mem (Nat.mod_lt _ (by omega)))
  · unfold turnL
    rw [List.map_map]
    refine nodup_mapG _ List.nodup_range fun x hx y hy he => ?_
    have hx' : x < l.length := by simpa using hx
    have hy' : y < l.length := by simpa using hy
    exact rot_inj h6 hx' hy' (name_inj h (Nat.mod_lt _ (by omega)) (Nat.mod_lt _ (by omega)) he)
theorem others_ok {l : List Prc} (h : itfErr l = 0) (n : Nat) : itfErr (othersL l n l.length) = 0 := by
  have h8 := ((itf_iff l).1 h).1
  refine (itf_iff _).2 ⟨?_, fun p hp => ?_, ?_⟩
  · unfold othersL
    rw [List.length_map]
    have := List.length_filter_le (fun j => decide (j ≠ n)) (List.range l.length)
    simp at this ⊢; omega
  · unfold othersL at hp
    obtain ⟨j, hj, rfl⟩ := List.mem_map.1 hp
    have hj' : j < l.length := by simpa using (List.mem_filter.1 hj).1
    exact itfErr_all h _ (atL_mem hj')
  · unfold othersL
    rw [List.map_map]
    refine nodup_mapG _ (List.nodup_range.filter _) fun x hx y hy he => ?_
    have hx' : x < l.length := by simpa using (List.mem_filter.1 hx).1
    have hy' : y < l.length := by simpa using (List.mem_filter.1 hy).1
    exact name_inj h hx' hy' he
theorem turn_cand {l : List Prc} {c : List Act} (h6 : l.length ≤ 6) {n : Nat} {p : Prc} (hp : l[n]? = some p) (hm : (matchF p c).isSome = true) (hu : ∀ q p', l[q]? = some p' → (matchF p' c).isSome = true → q = n) (t : Nat) :
    ∃ m, m < l.length ∧ (m + t) % l.length = n ∧ candF c (turnL l t l.length) 0 = [(m : Int)] := by
  have hn := (List.getElem?_eq_some_iff.1 hp).1
  obtain ⟨m, hm1, hm2⟩ := rot_ex (t := t) h6 hn
  refine ⟨m, hm1, hm2, cand_one (turnL_get hm1) ?_ ?_⟩
  · rw [hm2]
    have := atL_some hn
    rw [hp] at this
    rw [← Option.some.inj this]; exact hm
  · intro q p' hq hmq
    have hql : q < l.length := by
      have := (List.getElem?_eq_some_iff.1 hq).1
      simpa [turnL] using this
    rw [turnL_get hql] at hq
    obtain rfl := Option.some.inj hq
    have := hu _ _ (atL_some (Nat.mod_lt (q + t) (by omega))) hmq
    exact rot_inj h6 hql hm1 (by rw [this, hm2])
theorem others_cand {l : List Prc} {c : List Act} {n : Nat} (hu : ∀ q p', l[q]? = some p' → (matchF p' c).isSome = true → q = n) : candF c (othersL l n l.length) 0 = [] := by
  refine cand_none _ _ fun p hp => ?_
  unfold othersL at hp
  obtain ⟨j, hj, rfl⟩ := List.mem_map.1 hp
  have hj' : j < l.length := by simpa using (List.mem_filter.1 hj).1
  have hne : j ≠ n := by simpa using (List.mem_filter.1 hj).2
  cases hm : (matchF (atL l j) c).isSome with
  | false => rfl
  | true => exact absurd (hu j _ (atL_some hj') hm) hne
end Go.Proofs.Ytloecggdboingaa
namespace Go.Proofs.Ytloecggdboingaa
open Go.RowKit Go.Proofs
set_option linter.unusedVariables false
set_option linter.unusedSimpArgs false
attribute [local irreducible] PPure

end Go.Proofs.Ytloecggdboingaa
namespace Go.Proofs.Ytloecggdboingaa
open Go.RowKit Go.Proofs
set_option linter.unusedVariables false
set_option linter.unusedSimpArgs false
attribute [local irreducible] PPure

theorem callErr_len {c : List Act} (h : callErr c = 0) : c.length ≤ 8 := by
  unfold callErr callBad at h
  split at h
  · simp at h
  · rename_i h8; simp at h8; omega
theorem copyP {p : Prc} (h : prcErr p = 0) : PPure Try.prog 25 [encP p] (encP p) := p25 p (Nat.le_trans (prcErr_len h) (by decide))
theorem nmP6 (H : Hp) (xs : List Prc) : (xs.map encP).mapM (norm false H 6) = some (xs.map encP) := nm_of clPs H 5 xs
set_option maxHeartbeats 8000000 in
theorem law11 (l : List Prc) (c : List Act) (turn : Int) : PPure Try.prog 11 [.list .any (l.map encP), .list .any (c.map encA), .int .i64 turn] (.bool true) := by
  by_cases h6 : l.length ≤ 6
  · have h6' : ((6 : Int) < (l.length : Int)) = False := eq_false (by omega)
    have hl1 : l.length ≤ 1000 := by omega
    by_cases hD : itfErr l = 0
    · by_cases hk : callErr c = 0
      · have hcl := callErr_len hk
        have hc1 : c.length ≤ 1000 := by omega
        have hall := itfErr_all hD
        have ht : Tiny l := ⟨hl1, fun p hp => Nat.le_trans (prcErr_len (hall p hp)) (by decide)⟩
        have q16 := p16 l ht.small
        have q43 := p43 l ht
        have q44 := p44 l ht
        have q18 := p18 l c ht.small hc1
        have q19 := p19n l hl1
        have q20 := p20n c
        have q17 := p17 c hc1
        rw [enc3] at q43 q44
        have hor : orE [itfErr l, callErr c] = 0 := by rw [orE_two, if_pos hD, hk]
        have ec : candidates l c = (candF c l 0, 0) := by rw [candidates, if_pos hor]
        rw [resolved, ec] at q18
        rw [unruled, firstPair, if_pos hD] at q43
        -- no rule is missing: no common call
        have hnc : pairF (fun a b => !(distF a b).isSome) l = none → pairF (fun a b => (commonF a b).isSome) l = none := by
          intro h1
          cases h2 : pairF (fun a b => (commonF a b).isSome) l with
          | none => rfl
          | some x =>
            obtain ⟨i, k, a, b, hlt, ha, hb, hg⟩ := pair_some h2
            have h3 := pair_none h1 hlt ha hb
            have h4 : (distF a b).isSome = true := by simpa using h3
            obtain ⟨d, hd⟩ := Option.isSome_iff_exists.1 h4
            have := rules_no_common (hall a (List.mem_of_getElem? ha)) (hall b (List.mem_of_getElem? hb)) hd
            simp only [this] at hg; cases hg
        have ham : pairF (fun a b => (commonF a b).isSome) l = none → ambiguous l = (0, 0, 12) := by
          intro h2
          rw [ambiguous, firstPair, if_pos hD, h2]
        obtain ⟨W, hW⟩ : ∃ w, candF c l 0 = w := ⟨_, rfl⟩
        rw [hW] at q18
        cases W with
        | nil =>
          rw [if_neg (by decide)] at q18
          simp only [resErr, orE, broken] at q18
          cases h1 : pairF (fun a b => !(distF a b).isSome) l with
          | none =>
            rw [h1] at q43
            rw [ham (hnc h1)] at q44
            (refine ppure_of_T ok11 (by simp only [List.length_cons, List.length_nil]; decide) ?_; refine t_seq ?_)
            (have hNE := True.intro; have hC := True.intro; repeat' first
                | with_reducible refine k_seq ?_
                | with_reducible refine t_seq ?_
                | with_reducible refine t_reg ?_
                | with_reducible refine t_nil ?_
                | with_reducible refine t_skip ?_
                | with_reducible refine t_block ?_
                | ((with_reducible apply te_val); exact rfl; (intro _ _ _ h; cases h); (focus (simp only [go_sem, hNE, h6', hD, hk, cast0]; first | done | exact rfl)))
                | ((with_reducible apply te_callS); (focus (simp only [go_sem, hNE, h6', hD, hk, cast0]; first | done | exact rfl)); (focus (simp only [go_sem, hNE, h6', hD, hk, cast0]; first | done | exact rfl)); (focus (simp only [go_sem, hNE, h6', hD, hk, cast0]; first | done | exact rfl)); (first | exact p46 | exact q16 | exact q43 | exact q44 | exact q17 | exact q18 | exact q19 | exact q20))
                | ((with_reducible apply te_gval); exact rfl; (focus (simp only [go_sem, hNE, h6', hD, hk, cast0]; first | done | exact rfl)); exact rfl; (intro _ _ _ h; cases h); (focus (intro hG; simp only [go_sem, hNE, h6', hD, hk, cast0, hG]; first | done | exact rfl)))
                | ((with_reducible apply te_gcallS); exact rfl; (focus (simp only [go_sem, hNE, h6', hD, hk, cast0]; first | done | exact rfl)); (focus (simp only [go_sem, hNE, h6', hD, hk, cast0]; first | done | exact rfl)); (focus (intro hG; simp only [go_sem, hNE, h6', hD, hk, cast0, hG]; first | done | exact rfl)); (focus (simp only [go_sem, hNE, h6', hD, hk, cast0]; done)); (intro hG; first | exact p46 | exact q16 | exact q43 | exact q44 | exact q17 | exact q18 | exact q19 | exact q20))
                | ((with_reducible apply t_cond); (focus (simp only [go_sem, hNE, h6', hD, hk, cast0]; first | done | exact rfl)))
                | (with_reducible intro hc; with_reducible exact Bool.noConfusion hc)
                | (with_reducible intro hc; have hC := And.intro hC hc))
            refine t_loopE (fun (k0 : Nat) (E0 : Nat → PV) (H0 : Hp) => ∃ (i : Nat), i + k0 = l.length ∧ E0 15 = .int .i64 i) (l.length) ⟨0, (by first | omega | rfl | assumption | (simp only [go_sem, cast0]; first | done | rfl | assumption | omega)), (by simp only [go_sem, cast0]; first | done | rfl)⟩ ?_
            rintro k0 E0 H0 hfr0 ⟨i, hk, h0_15⟩
            have e0_0 := hfr0 0 rfl; have e0_1 := hfr0 1 rfl; have e0_2 := hfr0 2 rfl; have e0_9 := hfr0 9 rfl; have e0_13 := hfr0 13 rfl; have e0_14 := hfr0 14 rfl
            simp only [go_sem, cast0] at e0_0 e0_1 e0_2 e0_9 e0_13 e0_14
            clear hfr0
            by_cases hi : i < l.length
            · have hlt := lt_int hi
              have hle := Int.le_of_lt hlt
              have hw := wrap_next hi hl1
              have hx := atL_some hi
              have va := itfErr_all hD _ (atL_mem hi)
              have q25a := copyP va
              simp only [encP] at q25a
              (have hA := And.intro e0_0 (And.intro e0_1 (And.intro e0_2 (And.intro e0_9 (And.intro e0_13 (And.intro e0_14 (h0_15)))))); have hNE := True.intro; have hC := True.intro; repeat' first
                  | with_reducible refine k_seq ?_
                  | with_reducible refine t_seq ?_
                  | with_reducible refine t_reg ?_
                  | with_reducible refine t_nil ?_
                  | with_reducible refine t_skip ?_
                  | with_reducible refine t_block ?_
                  | ((with_reducible apply te_val); exact rfl; (intro _ _ _ h; cases h); (focus (simp only [go_sem, hNE, hA, hlt, hle, hw]; first | done | exact rfl)))
                  | ((with_reducible apply te_gval); exact rfl; (focus (simp only [go_sem, hNE, hA, hlt, hle, hw]; first | done | exact rfl)); exact rfl; (intro _ _ _ h; cases h); (focus (intro hG; simp only [go_sem, hNE, hA, hlt, hle, hw, hG]; first | done | exact rfl)))
                  | ((with_reducible apply t_cond); (focus (simp only [go_sem, hNE, hA, hlt, hle, hw]; first | done | exact rfl)))
                  | (with_reducible intro hc; with_reducible exact Bool.noConfusion hc)
                  | (with_reducible intro hc; have hC := And.intro hC hc))
              refine t_loopE (fun (k2 : Nat) (E2 : Nat → PV) (H2 : Hp) => ∃ (k : Nat), i + 1 + k + k2 = l.length ∧ E2 16 = .int .i64 ((i + 1 + k : Nat) : Int)) (l.length - (i + 1)) ⟨0, (by first | omega | rfl | assumption | (simp only [go_sem, e0_0, e0_1, e0_2, e0_9, e0_13, e0_14, h0_15, hlt, hw, Nat.add_zero]; first | done | rfl | assumption | omega)), (by simp only [go_sem, e0_0, e0_1, e0_2, e0_9, e0_13, e0_14, h0_15, hlt, hw, Nat.add_zero]; first | done | rfl)⟩ ?_
              rintro k2 E2 H2 hfr2 ⟨k, hk2, h2_16⟩
              have e2_0 := hfr2 0 rfl; have e2_1 := hfr2 1 rfl; have e2_2 := hfr2 2 rfl; have e2_9 := hfr2 9 rfl; have e2_13 := hfr2 13 rfl; have e2_14 := hfr2 14 rfl; have e2_15 := hfr2 15 rfl
              simp only [go_sem, e0_0, e0_1, e0_2, e0_9, e0_13, e0_14, h0_15, hlt, hw, Nat.add_zero] at e2_0 e2_1 e2_2 e2_9 e2_13 e2_14 e2_15
              clear hfr2
              by_cases hj : i + 1 + k < l.length
              · have hlt2 : ((i + 1 + k : Nat) : Int) < (l.length : Int) := by omega
                have hw2 : IntKind.i64.wrap (((i + 1 + k : Nat) : Int) + 1) = ((i + 1 + (k + 1) : Nat) : Int) := by rw [IntKind.wrap_i64]; omega
                have hy := atL_some hj
                have vb := itfErr_all hD _ (atL_mem hj)
                have q25b := copyP vb
                have hbe := bothErr_of va vb
                have hdis : (distF (atL l i) (atL l (i + 1 + k))).isSome = true := by
                  have := pair_none h1 (show i < i + 1 + k by omega) hx hy
                  simpa using this
                obtain ⟨dd, hdd⟩ := Option.isSome_iff_exists.1 hdis
                have la := Nat.le_trans (prcErr_len va) (show 8 ≤ 1000 by decide)
                have lb := Nat.le_trans (prcErr_len vb) (show 8 ≤ 1000 by decide)
                have q40 := p40 (atL l i) (atL l (i + 1 + k)) la lb
                rw [distOf, if_pos hbe, hdd] at q40
                have q39 := p39 (atL l i) (atL l (i + 1 + k)) dd la lb
                rw [refDist_check (by rw [rules_same' hbe]; exact hdd)] at q39
                simp only [encP, encS] at q25b q40 q39
                (have hA := And.intro e0_0 (And.intro e0_1 (And.intro e0_2 (And.intro e0_9 (And.intro e0_13 (And.intro e0_14 (And.intro h0_15 (And.intro e2_0 (And.intro e2_1 (And.intro e2_2 (And.intro e2_9 (And.intro e2_13 (And.intro e2_14 (And.intro e2_15 (h2_16)))))))))))))); have hNE := True.intro; have hC := True.intro; repeat' first
                    | ((with_reducible apply te_drwA); (focus (simp only [effFlA, List.map_cons, List.map_nil]; exact rfl)); (focus decide +kernel))
                    | with_reducible refine k_seq ?_
                    | with_reducible refine t_seq ?_
                    | with_reducible refine t_reg ?_
                    | with_reducible refine t_nil ?_
                    | with_reducible refine t_skip ?_
                    | with_reducible refine k_blk ?_
                    | with_reducible refine t_block ?_
                    | with_reducible refine m_nil ?_
                    | ((with_reducible apply te_val); exact rfl; (intro _ _ _ h; cases h); (focus (simp only [go_sem, hNE, hA, hlt, hle, hx, hlt2, hy, hw, encP, encS, broken]; first | done | exact rfl)))
                    | ((with_reducible apply me_val); exact rfl; (intro _ _ _ h; cases h); (focus (simp only [go_sem, hNE, hA, hlt, hle, hx, hlt2, hy, hw, encP, encS, broken]; first | done | exact rfl)))
                    | ((with_reducible apply me_callS); (focus (simp only [go_sem, hNE, hA, hlt, hle, hx, hlt2, hy, hw, encP, encS, broken]; first | done | exact rfl)); (focus (simp only [go_sem, hNE, hA, hlt, hle, hx, hlt2, hy, hw, encP, encS, broken]; first | done | exact rfl)); (focus (simp only [go_sem, hNE, hA, hlt, hle, hx, hlt2, hy, hw, encP, encS, broken]; first | done | exact rfl)); (first | exact q25a | exact q25b | exact q40 | exact q39))
                    | ((with_reducible apply me_gval); exact rfl; (focus (simp only [go_sem, hNE, hA, hlt, hle, hx, hlt2, hy, hw, encP, encS, broken]; first | done | exact rfl)); exact rfl; (intro _ _ _ h; cases h); (focus (intro hG; simp only [go_sem, hNE, hA, hlt, hle, hx, hlt2, hy, hw, encP, encS, broken, hG]; first | done | exact rfl)))
                    | ((with_reducible apply me_gcallS); exact rfl; (focus (simp only [go_sem, hNE, hA, hlt, hle, hx, hlt2, hy, hw, encP, encS, broken]; first | done | exact rfl)); (focus (simp only [go_sem, hNE, hA, hlt, hle, hx, hlt2, hy, hw, encP, encS, broken]; first | done | exact rfl)); (focus (intro hG; simp only [go_sem, hNE, hA, hlt, hle, hx, hlt2, hy, hw, encP, encS, broken, hG]; first | done | exact rfl)); (focus (simp only [go_sem, hNE, hA, hlt, hle, hx, hlt2, hy, hw, encP, encS, broken]; done)); (intro hG; first | exact q25a | exact q25b | exact q40 | exact q39))
                    | ((with_reducible apply me_alloc); (focus (simp only [go_sem, hNE, hA, hlt, hle, hx, hlt2, hy, hw, encP, encS, broken]; first | done | exact rfl)); exact rfl; exact rfl; (intro la ha hn1; have hNE := And.intro hNE hn1))
                    | ((with_reducible apply me_store); (focus (simp only [go_sem, hNE, hA, hlt, hle, hx, hlt2, hy, hw, encP, encS, broken]; first | done | exact rfl)); (focus (simp only [go_sem, hNE, hA, hlt, hle, hx, hlt2, hy, hw, encP, encS, broken]; first | done | exact rfl)); (focus (simp only [go_sem, hNE, hA, hlt, hle, hx, hlt2, hy, hw, encP, encS, broken]; first | done | exact rfl)); (focus (simp only [go_sem, hNE, hA, hlt, hle, hx, hlt2, hy, hw, encP, encS, broken]; first | done | exact rfl)); (focus (simp only [go_sem, hNE, hA, hlt, hle, hx, hlt2, hy, hw, encP, encS, broken]; first | done | exact rfl)); (focus (simp only [go_sem, hNE, hA, hlt, hle, hx, hlt2, hy, hw, encP, encS, broken]; first | done | exact rfl)))
                    | ((with_reducible apply t_cond); (focus (simp only [go_sem, hNE, hA, hlt, hle, hx, hlt2, hy, hw, encP, encS, broken]; first | done | exact rfl)))
                    | (with_reducible intro hc; with_reducible exact Bool.noConfusion hc)
                    | (with_reducible intro hc; have hC := And.intro hC hc))
                refine k_invE (k2 - 1) (by omega) ⟨k + 1, (by omega), (by simp only [go_sem, e0_0, e0_1, e0_2, e0_9, e0_13, e0_14, h0_15, e2_0, e2_1, e2_2, e2_9, e2_13, e2_14, e2_15, h2_16, hw2, encP]; first | done | rfl)⟩
              · have hlt2 : (((i + 1 + k : Nat) : Int) < (l.length : Int)) = False := eq_false (by omega)
                (have hA := And.intro e0_0 (And.intro e0_1 (And.intro e0_2 (And.intro e0_9 (And.intro e0_13 (And.intro e0_14 (And.intro h0_15 (And.intro e2_0 (And.intro e2_1 (And.intro e2_2 (And.intro e2_9 (And.intro e2_13 (And.intro e2_14 (And.intro e2_15 (h2_16)))))))))))))); have hNE := True.intro; have hC := True.intro; repeat' first
                    | with_reducible refine k_seq ?_
                    | with_reducible refine t_seq ?_
                    | with_reducible refine t_reg ?_
                    | with_reducible refine t_nil ?_
                    | with_reducible refine t_exit ?_
                    | with_reducible refine k_seq_exit ?_
                    | with_reducible refine k_blk_exit ?_
                    | with_reducible refine k_blk ?_
                    | with_reducible refine k_invE_exit ?_
                    | ((with_reducible apply te_val); exact rfl; (intro _ _ _ h; cases h); (focus (simp only [go_sem, hNE, hA, hlt2]; first | done | exact rfl)))
                    | ((with_reducible apply t_cond); (focus (simp only [go_sem, hNE, hA, hlt2]; first | done | exact rfl)))
                    | (with_reducible intro hc; with_reducible exact Bool.noConfusion hc)
                    | (with_reducible intro hc; have hC := And.intro hC hc))
                refine k_invE (k0 - 1) (by omega) ⟨i + 1, (by omega), (by simp only [go_sem, e0_0, e0_1, e0_2, e0_9, e0_13, e0_14, h0_15, e2_0, e2_1, e2_2, e2_9, e2_13, e2_14, e2_15, h2_16, hw]; first | done | rfl)⟩
            · have hlt := nlt_int hi
              (have hA := And.intro e0_0 (And.intro e0_1 (And.intro e0_2 (And.intro e0_9 (And.intro e0_13 (And.intro e0_14 (h0_15)))))); have hNE := True.intro; have hC := True.intro; repeat' first
                  | with_reducible refine k_seq ?_
                  | with_reducible refine t_seq ?_
                  | with_reducible refine t_reg ?_
                  | with_reducible refine t_nil ?_
                  | with_reducible refine t_ret ?_
                  | with_reducible refine t_exit ?_
                  | with_reducible refine k_seq_exit ?_
                  | with_reducible refine k_seq_ret ?_
                  | with_reducible refine k_blk_exit ?_
                  | with_reducible refine k_invE_exit ?_
                  | ((with_reducible apply te_val); exact rfl; (intro _ _ _ h; cases h); (focus (simp only [go_sem, hNE, hA, hlt, cast0]; first | done | exact rfl)))
                  | ((with_reducible apply te_gval); exact rfl; (focus (simp only [go_sem, hNE, hA, hlt, cast0]; first | done | exact rfl)); exact rfl; (intro _ _ _ h; cases h); (focus (intro hG; simp only [go_sem, hNE, hA, hlt, cast0, hG]; first | done | exact rfl)))
                  | ((with_reducible apply t_cond); (focus (simp only [go_sem, hNE, hA, hlt, cast0]; first | done | exact rfl)))
                  | (with_reducible intro hc; with_reducible exact Bool.noConfusion hc)
                  | (with_reducible intro hc; have hC := And.intro hC hc))
              (first | apply pend rs11 | apply pendN rs11); (focus (simp only [go_sem, e0_0, e0_1, e0_2, e0_9, e0_13, e0_14, h0_15]; first | done | exact rfl)); (focus (simp only [go_sem, e0_0, e0_1, e0_2, e0_9, e0_13, e0_14, h0_15]; first | done | exact rfl))
          | some z =>
            rw [h1] at q43
            (refine ppure_of_T ok11 (by simp only [List.length_cons, List.length_nil]; decide) ?_; refine t_seq ?_)
            (have hNE := True.intro; have hC := True.intro; repeat' first
                | with_reducible refine k_seq ?_
                | with_reducible refine t_seq ?_
                | with_reducible refine t_reg ?_
                | with_reducible refine t_nil ?_
                | with_reducible refine t_skip ?_
                | with_reducible refine t_block ?_
                | ((with_reducible apply te_val); exact rfl; (intro _ _ _ h; cases h); (focus (simp only [go_sem, hNE, h6', hD, hk, cast0]; first | done | exact rfl)))
                | ((with_reducible apply te_callS); (focus (simp only [go_sem, hNE, h6', hD, hk, cast0]; first | done | exact rfl)); (focus (simp only [go_sem, hNE, h6', hD, hk, cast0]; first | done | exact rfl)); (focus (simp only [go_sem, hNE, h6', hD, hk, cast0]; first | done | exact rfl)); (first | exact p46 | exact q16 | exact q43 | exact q44 | exact q17 | exact q18 | exact q19 | exact q20))
                | ((with_reducible apply te_gval); exact rfl; (focus (simp only [go_sem, hNE, h6', hD, hk, cast0]; first | done | exact rfl)); exact rfl; (intro _ _ _ h; cases h); (focus (intro hG; simp only [go_sem, hNE, h6', hD, hk, cast0, hG]; first | done | exact rfl)))
                | ((with_reducible apply te_gcallS); exact rfl; (focus (simp only [go_sem, hNE, h6', hD, hk, cast0]; first | done | exact rfl)); (focus (simp only [go_sem, hNE, h6', hD, hk, cast0]; first | done | exact rfl)); (focus (intro hG; simp only [go_sem, hNE, h6', hD, hk, cast0, hG]; first | done | exact rfl)); (focus (simp only [go_sem, hNE, h6', hD, hk, cast0]; done)); (intro hG; first | exact p46 | exact q16 | exact q43 | exact q44 | exact q17 | exact q18 | exact q19 | exact q20))
                | ((with_reducible apply t_cond); (focus (simp only [go_sem, hNE, h6', hD, hk, cast0]; first | done | exact rfl)))
                | (with_reducible intro hc; with_reducible exact Bool.noConfusion hc)
                | (with_reducible intro hc; have hC := And.intro hC hc))
            refine t_loopE (fun (k0 : Nat) (E0 : Nat → PV) (H0 : Hp) => ∃ (i : Nat), i + k0 = l.length ∧ E0 15 = .int .i64 i) (l.length) ⟨0, (by first | omega | rfl | assumption | (simp only [go_sem, cast0]; first | done | rfl | assumption | omega)), (by simp only [go_sem, cast0]; first | done | rfl)⟩ ?_
            rintro k0 E0 H0 hfr0 ⟨i, hk, h0_15⟩
            have e0_0 := hfr0 0 rfl; have e0_1 := hfr0 1 rfl; have e0_2 := hfr0 2 rfl; have e0_9 := hfr0 9 rfl; have e0_13 := hfr0 13 rfl; have e0_14 := hfr0 14 rfl
            simp only [go_sem, cast0] at e0_0 e0_1 e0_2 e0_9 e0_13 e0_14
            clear hfr0
            (have hA := And.intro e0_0 (And.intro e0_1 (And.intro e0_2 (And.intro e0_9 (And.intro e0_13 (And.intro e0_14 (h0_15)))))); have hNE := True.intro; have hC := True.intro; repeat' first
                | with_reducible refine k_seq ?_
                | with_reducible refine t_seq ?_
                | with_reducible refine t_reg ?_
                | with_reducible refine t_nil ?_
                | with_reducible refine t_ret ?_
                | with_reducible refine t_exit ?_
                | with_reducible refine k_seq_exit ?_
                | with_reducible refine k_seq_ret ?_
                | with_reducible refine k_blk_exit ?_
                | with_reducible refine k_invE_exit ?_
                | ((with_reducible apply te_val); exact rfl; (intro _ _ _ h; cases h); (focus (simp only [go_sem, hNE, hA, cast0]; first | done | exact rfl)))
                | ((with_reducible apply te_gval); exact rfl; (focus (simp only [go_sem, hNE, hA, cast0]; first | done | exact rfl)); exact rfl; (intro _ _ _ h; cases h); (focus (intro hG; simp only [go_sem, hNE, hA, cast0, hG]; first | done | exact rfl)))
                | ((with_reducible apply t_cond); (focus (simp only [go_sem, hNE, hA, cast0]; first | done | exact rfl)))
                | (with_reducible intro hc; with_reducible exact Bool.noConfusion hc)
                | (with_reducible intro hc; have hC := And.intro hC hc))
            (first | apply pend rs11 | apply pendN rs11); (focus (simp only [go_sem, e0_0, e0_1, e0_2, e0_9, e0_13, e0_14, h0_15]; first | done | exact rfl)); (focus (simp only [go_sem, e0_0, e0_1, e0_2, e0_9, e0_13, e0_14, h0_15]; first | done | exact rfl))
        | cons v w =>
          cases w with
          | nil =>
            rw [if_pos (by rfl)] at q18
            simp only [List.headD_cons] at q18
            obtain ⟨n, p, rfl, hp, hm, hu⟩ := cand_one_inv hW
            have hn := (List.getElem?_eq_some_iff.1 hp).1
            have HW : IntKind.i64.wrap ((l.length : Int) - 1) = (l.length : Int) - 1 := by rw [IntKind.wrap_i64]; omega
            have hwi : (decide (0 ≤ (n : Int)) && decide ((n : Int) ≤ (l.length : Int) - 1)) = true := by simp; omega
            have hwj : ((n : Int) ≤ (l.length : Int) - 1) = True := eq_true (by omega)
            obtain ⟨tn, htn⟩ : ∃ t : Nat, turn % (l.length : Int) = (t : Int) := ⟨(turn % (l.length : Int)).toNat, by have := Int.emod_nonneg turn (show (l.length : Int) ≠ 0 by omega); omega⟩
            have htl : tn < l.length := by have := Int.emod_lt_of_pos turn (show (0 : Int) < l.length by omega); omega
            have q48a := p48 turn l.length (by omega) hl1
            rw [htn] at q48a
            obtain ⟨m, hm1, hm2, hm0⟩ := turn_cand h6 hp hm hu tn
            have hTok := turn_ok hD h6 tn
            have hOok := others_ok hD n
            have hTt : Tiny (turnL l tn l.length) := ⟨by unfold turnL; simp; omega, fun p hp => Nat.le_trans (prcErr_len (itfErr_all hTok p hp)) (by decide)⟩
            have hOt : Tiny (othersL l n l.length) := ⟨Nat.le_trans ((itf_iff _).1 hOok).1 (by decide), fun p hp => Nat.le_trans (prcErr_len (itfErr_all hOok p hp)) (by decide)⟩
            have q18T := p18 (turnL l tn l.length) c hTt.small hc1
            have eT : candidates (turnL l tn l.length) c = ([(m : Int)], 0) := by rw [candidates, if_pos (by rw [orE_two, if_pos hTok, hk]), hm0]
            rw [resolved, eT, if_pos (by rfl)] at q18T
            simp only [List.headD_cons] at q18T
            have q15O := p15 (othersL l n l.length) c hOt.small hc1
            have eO : candidates (othersL l n l.length) c = ([], 0) := by rw [candidates, if_pos (by rw [orE_two, if_pos hOok, hk]), others_cand hu]
            rw [encLE, eO] at q15O
            have hm3 : ((m : Int) < (l.length : Int)) = True := eq_true (by omega)
            have hm4 : ((m : Int) ≤ (l.length : Int) - 1) = True := eq_true (by omega)
            have hpn := atL_some hn
            have hnl : ((n : Int) < (l.length : Int)) = True := eq_true (by omega)
            have hle0 : ((n : Int) ≤ (l.length : Int)) = True := eq_true (by omega)
            cases h1 : pairF (fun a b => !(distF a b).isSome) l with
            | none =>
              rw [h1] at q43
              rw [ham (hnc h1)] at q44
              (refine ppure_of_T ok11 (by simp only [List.length_cons, List.length_nil]; decide) ?_; refine t_seq ?_)
              (have hNE := True.intro; have hC := True.intro; repeat' first
                  | with_reducible refine k_seq ?_
                  | with_reducible refine t_seq ?_
                  | with_reducible refine t_reg ?_
                  | with_reducible refine t_nil ?_
                  | with_reducible refine t_skip ?_
                  | with_reducible refine t_block ?_
                  | ((with_reducible apply te_val); exact rfl; (intro _ _ _ h; cases h); (focus (simp only [go_sem, hNE, h6', hD, hk, cast0]; first | done | exact rfl)))
                  | ((with_reducible apply te_callS); (focus (simp only [go_sem, hNE, h6', hD, hk, cast0]; first | done | exact rfl)); (focus (simp only [go_sem, hNE, h6', hD, hk, cast0]; first | done | exact rfl)); (focus (simp only [go_sem, hNE, h6', hD, hk, cast0]; first | done | exact rfl)); (first | exact p46 | exact q16 | exact q43 | exact q44 | exact q17 | exact q18 | exact q19 | exact q20))
                  | ((with_reducible apply te_gval); exact rfl; (focus (simp only [go_sem, hNE, h6', hD, hk, cast0]; first | done | exact rfl)); exact rfl; (intro _ _ _ h; cases h); (focus (intro hG; simp only [go_sem, hNE, h6', hD, hk, cast0, hG]; first | done | exact rfl)))
                  | ((with_reducible apply te_gcallS); exact rfl; (focus (simp only [go_sem, hNE, h6', hD, hk, cast0]; first | done | exact rfl)); (focus (simp only [go_sem, hNE, h6', hD, hk, cast0]; first | done | exact rfl)); (focus (intro hG; simp only [go_sem, hNE, h6', hD, hk, cast0, hG]; first | done | exact rfl)); (focus (simp only [go_sem, hNE, h6', hD, hk, cast0]; done)); (intro hG; first | exact p46 | exact q16 | exact q43 | exact q44 | exact q17 | exact q18 | exact q19 | exact q20))
                  | ((with_reducible apply t_cond); (focus (simp only [go_sem, hNE, h6', hD, hk, cast0]; first | done | exact rfl)))
                  | (with_reducible intro hc; with_reducible exact Bool.noConfusion hc)
                  | (with_reducible intro hc; have hC := And.intro hC hc))
              refine t_loopE (fun (k0 : Nat) (E0 : Nat → PV) (H0 : Hp) => ∃ (i : Nat), i + k0 = l.length ∧ E0 15 = .int .i64 i) (l.length) ⟨0, (by first | omega | rfl | assumption | (simp only [go_sem, cast0]; first | done | rfl | assumption | omega)), (by simp only [go_sem, cast0]; first | done | rfl)⟩ ?_
              rintro k0 E0 H0 hfr0 ⟨i, hk, h0_15⟩
              have e0_0 := hfr0 0 rfl; have e0_1 := hfr0 1 rfl; have e0_2 := hfr0 2 rfl; have e0_9 := hfr0 9 rfl; have e0_13 := hfr0 13 rfl; have e0_14 := hfr0 14 rfl
              simp only [go_sem, cast0] at e0_0 e0_1 e0_2 e0_9 e0_13 e0_14
              clear hfr0
              by_cases hi : i < l.length
              · have hlt := lt_int hi
                have hle := Int.le_of_lt hlt
                have hw := wrap_next hi hl1
                have hx := atL_some hi
                have va := itfErr_all hD _ (atL_mem hi)
                have q25a := copyP va
                simp only [encP] at q25a
                (have hA := And.intro e0_0 (And.intro e0_1 (And.intro e0_2 (And.intro e0_9 (And.intro e0_13 (And.intro e0_14 (h0_15)))))); have hNE := True.intro; have hC := True.intro; repeat' first
                    | with_reducible refine k_seq ?_
                    | with_reducible refine t_seq ?_
                    | with_reducible refine t_reg ?_
                    | with_reducible refine t_nil ?_
                    | with_reducible refine t_skip ?_
                    | with_reducible refine t_block ?_
                    | ((with_reducible apply te_val); exact rfl; (intro _ _ _ h; cases h); (focus (simp only [go_sem, hNE, hA, hlt, hle, hw]; first | done | exact rfl)))
                    | ((with_reducible apply te_gval); exact rfl; (focus (simp only [go_sem, hNE, hA, hlt, hle, hw]; first | done | exact rfl)); exact rfl; (intro _ _ _ h; cases h); (focus (intro hG; simp only [go_sem, hNE, hA, hlt, hle, hw, hG]; first | done | exact rfl)))
                    | ((with_reducible apply t_cond); (focus (simp only [go_sem, hNE, hA, hlt, hle, hw]; first | done | exact rfl)))
                    | (with_reducible intro hc; with_reducible exact Bool.noConfusion hc)
                    | (with_reducible intro hc; have hC := And.intro hC hc))
                refine t_loopE (fun (k2 : Nat) (E2 : Nat → PV) (H2 : Hp) => ∃ (k : Nat), i + 1 + k + k2 = l.length ∧ E2 16 = .int .i64 ((i + 1 + k : Nat) : Int)) (l.length - (i + 1)) ⟨0, (by first | omega | rfl | assumption | (simp only [go_sem, e0_0, e0_1, e0_2, e0_9, e0_13, e0_14, h0_15, hlt, hw, Nat.add_zero]; first | done | rfl | assumption | omega)), (by simp only [go_sem, e0_0, e0_1, e0_2, e0_9, e0_13, e0_14, h0_15, hlt, hw, Nat.add_zero]; first | done | rfl)⟩ ?_
                rintro k2 E2 H2 hfr2 ⟨k, hk2, h2_16⟩
                have e2_0 := hfr2 0 rfl; have e2_1 := hfr2 1 rfl; have e2_2 := hfr2 2 rfl; have e2_9 := hfr2 9 rfl; have e2_13 := hfr2 13 rfl; have e2_14 := hfr2 14 rfl; have e2_15 := hfr2 15 rfl
                simp only [go_sem, e0_0, e0_1, e0_2, e0_9, e0_13, e0_14, h0_15, hlt, hw, Nat.add_zero] at e2_0 e2_1 e2_2 e2_9 e2_13 e2_14 e2_15
                clear hfr2
                by_cases hj : i + 1 + k < l.length
                · have hlt2 : ((i + 1 + k : Nat) : Int) < (l.length : Int) := by omega
                  have hw2 : IntKind.i64.wrap (((i + 1 + k : Nat) : Int) + 1) = ((i + 1 + (k + 1) : Nat) : Int) := by rw [IntKind.wrap_i64]; omega
                  have hy := atL_some hj
                  have vb := itfErr_all hD _ (atL_mem hj)
                  have q25b := copyP vb
                  have hbe := bothErr_of va vb
                  have hdis : (distF (atL l i) (atL l (i + 1 + k))).isSome = true := by
                    have := pair_none h1 (show i < i + 1 + k by omega) hx hy
                    simpa using this
                  obtain ⟨dd, hdd⟩ := Option.isSome_iff_exists.1 hdis
                  have la := Nat.le_trans (prcErr_len va) (show 8 ≤ 1000 by decide)
                  have lb := Nat.le_trans (prcErr_len vb) (show 8 ≤ 1000 by decide)
                  have q40 := p40 (atL l i) (atL l (i + 1 + k)) la lb
                  rw [distOf, if_pos hbe, hdd] at q40
                  have q39 := p39 (atL l i) (atL l (i + 1 + k)) dd la lb
                  rw [refDist_check (by rw [rules_same' hbe]; exact hdd)] at q39
                  simp only [encP, encS] at q25b q40 q39
                  (have hA := And.intro e0_0 (And.intro e0_1 (And.intro e0_2 (And.intro e0_9 (And.intro e0_13 (And.intro e0_14 (And.intro h0_15 (And.intro e2_0 (And.intro e2_1 (And.intro e2_2 (And.intro e2_9 (And.intro e2_13 (And.intro e2_14 (And.intro e2_15 (h2_16)))))))))))))); have hNE := True.intro; have hC := True.intro; repeat' first
                      | ((with_reducible apply te_drwA); (focus (simp only [effFlA, List.map_cons, List.map_nil]; exact rfl)); (focus decide +kernel))
                      | with_reducible refine k_seq ?_
                      | with_reducible refine t_seq ?_
                      | with_reducible refine t_reg ?_
                      | with_reducible refine t_nil ?_
                      | with_reducible refine t_skip ?_
                      | with_reducible refine k_blk ?_
                      | with_reducible refine t_block ?_
                      | with_reducible refine m_nil ?_
                      | ((with_reducible apply te_val); exact rfl; (intro _ _ _ h; cases h); (focus (simp only [go_sem, hNE, hA, hlt, hle, hx, hlt2, hy, hw, encP, encS, broken]; first | done | exact rfl)))
                      | ((with_reducible apply me_val); exact rfl; (intro _ _ _ h; cases h); (focus (simp only [go_sem, hNE, hA, hlt, hle, hx, hlt2, hy, hw, encP, encS, broken]; first | done | exact rfl)))
                      | ((with_reducible apply me_callS); (focus (simp only [go_sem, hNE, hA, hlt, hle, hx, hlt2, hy, hw, encP, encS, broken]; first | done | exact rfl)); (focus (simp only [go_sem, hNE, hA, hlt, hle, hx, hlt2, hy, hw, encP, encS, broken]; first | done | exact rfl)); (focus (simp only [go_sem, hNE, hA, hlt, hle, hx, hlt2, hy, hw, encP, encS, broken]; first | done | exact rfl)); (first | exact q25a | exact q25b | exact q40 | exact q39))
                      | ((with_reducible apply me_gval); exact rfl; (focus (simp only [go_sem, hNE, hA, hlt, hle, hx, hlt2, hy, hw, encP, encS, broken]; first | done | exact rfl)); exact rfl; (intro _ _ _ h; cases h); (focus (intro hG; simp only [go_sem, hNE, hA, hlt, hle, hx, hlt2, hy, hw, encP, encS, broken, hG]; first | done | exact rfl)))
                      | ((with_reducible apply me_gcallS); exact rfl; (focus (simp only [go_sem, hNE, hA, hlt, hle, hx, hlt2, hy, hw, encP, encS, broken]; first | done | exact rfl)); (focus (simp only [go_sem, hNE, hA, hlt, hle, hx, hlt2, hy, hw, encP, encS, broken]; first | done | exact rfl)); (focus (intro hG; simp only [go_sem, hNE, hA, hlt, hle, hx, hlt2, hy, hw, encP, encS, broken, hG]; first | done | exact rfl)); (focus (simp only [go_sem, hNE, hA, hlt, hle, hx, hlt2, hy, hw, encP, encS, broken]; done)); (intro hG; first | exact q25a | exact q25b | exact q40 | exact q39))
                      | ((with_reducible apply me_alloc); (focus (simp only [go_sem, hNE, hA, hlt, hle, hx, hlt2, hy, hw, encP, encS, broken]; first | done | exact rfl)); exact rfl; exact rfl; (intro la ha hn1; have hNE := And.intro hNE hn1))
                      | ((with_reducible apply me_store); (focus (simp only [go_sem, hNE, hA, hlt, hle, hx, hlt2, hy, hw, encP, encS, broken]; first | done | exact rfl)); (focus (simp only [go_sem, hNE, hA, hlt, hle, hx, hlt2, hy, hw, encP, encS, broken]; first | done | exact rfl)); (focus (simp only [go_sem, hNE, hA, hlt, hle, hx, hlt2, hy, hw, encP, encS, broken]; first | done | exact rfl)); (focus (simp only [go_sem, hNE, hA, hlt, hle, hx, hlt2, hy, hw, encP, encS, broken]; first | done | exact rfl)); (focus (simp only [go_sem, hNE, hA, hlt, hle, hx, hlt2, hy, hw, encP, encS, broken]; first | done | exact rfl)); (focus (simp only [go_sem, hNE, hA, hlt, hle, hx, hlt2, hy, hw, encP, encS, broken]; first | done | exact rfl)))
                      | ((with_reducible apply t_cond); (focus (simp only [go_sem, hNE, hA, hlt, hle, hx, hlt2, hy, hw, encP, encS, broken]; first | done | exact rfl)))
                      | (with_reducible intro hc; with_reducible exact Bool.noConfusion hc)
                      | (with_reducible intro hc; have hC := And.intro hC hc))
                  refine k_invE (k2 - 1) (by omega) ⟨k + 1, (by omega), (by simp only [go_sem, e0_0, e0_1, e0_2, e0_9, e0_13, e0_14, h0_15, e2_0, e2_1, e2_2, e2_9, e2_13, e2_14, e2_15, h2_16, hw2, encP]; first | done | rfl)⟩
                · have hlt2 : (((i + 1 + k : Nat) : Int) < (l.length : Int)) = False := eq_false (by omega)
                  (have hA := And.intro e0_0 (And.intro e0_1 (And.intro e0_2 (And.intro e0_9 (And.intro e0_13 (And.intro e0_14 (And.intro h0_15 (And.intro e2_0 (And.intro e2_1 (And.intro e2_2 (And.intro e2_9 (And.intro e2_13 (And.intro e2_14 (And.intro e2_15 (h2_16)))))))))))))); have hNE := True.intro; have hC := True.intro; repeat' first
                      | with_reducible refine k_seq ?_
                      | with_reducible refine t_seq ?_
                      | with_reducible refine t_reg ?_
                      | with_reducible refine t_nil ?_
                      | with_reducible refine t_exit ?_
                      | with_reducible refine k_seq_exit ?_
                      | with_reducible refine k_blk_exit ?_
                      | with_reducible refine k_blk ?_
                      | with_reducible refine k_invE_exit ?_
                      | ((with_reducible apply te_val); exact rfl; (intro _ _ _ h; cases h); (focus (simp only [go_sem, hNE, hA, hlt2]; first | done | exact rfl)))
                      | ((with_reducible apply t_cond); (focus (simp only [go_sem, hNE, hA, hlt2]; first | done | exact rfl)))
                      | (with_reducible intro hc; with_reducible exact Bool.noConfusion hc)
                      | (with_reducible intro hc; have hC := And.intro hC hc))
                  refine k_invE (k0 - 1) (by omega) ⟨i + 1, (by omega), (by simp only [go_sem, e0_0, e0_1, e0_2, e0_9, e0_13, e0_14, h0_15, e2_0, e2_1, e2_2, e2_9, e2_13, e2_14, e2_15, h2_16, hw]; first | done | rfl)⟩
              · have hlt := nlt_int hi
                (have hA := And.intro e0_0 (And.intro e0_1 (And.intro e0_2 (And.intro e0_9 (And.intro e0_13 (And.intro e0_14 (h0_15)))))); have hNE := True.intro; have hC := True.intro; repeat' first
                    | with_reducible refine k_seq ?_
                    | with_reducible refine t_seq ?_
                    | with_reducible refine t_reg ?_
                    | with_reducible refine t_nil ?_
                    | with_reducible refine t_skip ?_
                    | with_reducible refine t_exit ?_
                    | with_reducible refine k_seq_exit ?_
                    | with_reducible refine k_blk_exit ?_
                    | with_reducible refine k_invE_exit ?_
                    | with_reducible refine t_block ?_
                    | ((with_reducible apply te_val); exact rfl; (intro _ _ _ h; cases h); (focus (simp only [go_sem, hNE, hA, hlt, cast0, HW, hwi, hwj]; first | done | exact rfl)))
                    | ((with_reducible apply te_callS); (focus (simp only [go_sem, hNE, hA, hlt, cast0, HW, hwi, hwj]; first | done | exact rfl)); (focus (simp only [go_sem, hNE, hA, hlt, cast0, HW, hwi, hwj]; first | done | exact rfl)); (focus (simp only [go_sem, hNE, hA, hlt, cast0, HW, hwi, hwj]; first | done | exact rfl)); (first | exact p47b _ _ _))
                    | ((with_reducible apply te_gval); exact rfl; (focus (simp only [go_sem, hNE, hA, hlt, cast0, HW, hwi, hwj]; first | done | exact rfl)); exact rfl; (intro _ _ _ h; cases h); (focus (intro hG; simp only [go_sem, hNE, hA, hlt, cast0, HW, hwi, hwj, hG]; first | done | exact rfl)))
                    | ((with_reducible apply t_cond); (focus (simp only [go_sem, hNE, hA, hlt, cast0, HW, hwi, hwj]; first | done | exact rfl)))
                    | (with_reducible intro hc; with_reducible exact Bool.noConfusion hc)
                    | (with_reducible intro hc; have hC := And.intro hC hc))
                refine t_loopE (fun (k4 : Nat) (E4 : Nat → PV) (H4 : Hp) => ∃ (i : Nat), i + k4 = l.length ∧ Acc2 H4 (E4 19) 2 ((turnL l tn i).map encP) (E4 20) 2 ((othersL l n i).map encP) ∧ E4 21 = .int .i64 i) (l.length) ⟨0, (by first | omega | rfl | assumption | (simp only [go_sem, e0_0, e0_1, e0_2, e0_9, e0_13, e0_14, h0_15, cast0, HW, hwi, hwj]; first | done | rfl | assumption | omega)), ?_, (by simp only [go_sem, e0_0, e0_1, e0_2, e0_9, e0_13, e0_14, h0_15, cast0, HW, hwi, hwj]; first | done | rfl)⟩ ?_
                · exact Acc2.nil _ _ _
                rintro k4 E4 H4 hfr4 ⟨i, hk4, hacc, h4_21⟩
                have e4_0 := hfr4 0 rfl; have e4_1 := hfr4 1 rfl; have e4_2 := hfr4 2 rfl; have e4_6 := hfr4 6 rfl; have e4_13 := hfr4 13 rfl
                simp only [go_sem, e0_0, e0_1, e0_2, e0_9, e0_13, e0_14, h0_15, cast0, HW, hwi, hwj] at e4_0 e4_1 e4_2 e4_6 e4_13
                clear hfr4
                by_cases hi : i < l.length
                · have hlt := lt_int hi
                  have hle := Int.le_of_lt hlt
                  have hw := wrap_next hi hl1
                  have hx := atL_some hi
                  have hmod := Nat.mod_lt (i + tn) (show 0 < l.length by omega)
                  have hx2 := atL_some hmod
                  have hlt2 : (((i + tn) % l.length : Nat) : Int) < (l.length : Int) := by omega
                  have hw5 : IntKind.i64.wrap ((i : Int) + (tn : Int)) = ((i + tn : Nat) : Int) := by rw [IntKind.wrap_i64]; omega
                  have q48b := p48 ((i + tn : Nat) : Int) l.length (by omega) hl1
                  rw [show ((i + tn : Nat) : Int) % (l.length : Int) = (((i + tn) % l.length : Nat) : Int) from (Int.natCast_emod _ _).symm] at q48b
                  have qa := copyP (itfErr_all hD _ (atL_mem hmod))
                  have qb := copyP (itfErr_all hD _ (atL_mem hi))
                  simp only [encP] at qa qb
                  have hTl : (turnL l tn i).length = i := by unfold turnL; simp
                  have hOl : (othersL l n i).length ≤ i := by
                    unfold othersL
                    rw [List.length_map]
                    have := List.length_filter_le (fun j => decide (j ≠ n)) (List.range i)
                    simpa using this
                  (have hA := And.intro e0_0 (And.intro e0_1 (And.intro e0_2 (And.intro e0_9 (And.intro e0_13 (And.intro e0_14 (And.intro h0_15 (And.intro e4_0 (And.intro e4_1 (And.intro e4_2 (And.intro e4_6 (And.intro e4_13 (h4_21)))))))))))); have hNE := True.intro; have hC := True.intro; repeat' first
                      | with_reducible refine k_seq ?_
                      | with_reducible refine t_seq ?_
                      | with_reducible refine t_reg ?_
                      | with_reducible refine t_nil ?_
                      | with_reducible refine t_skip ?_
                      | with_reducible refine t_block ?_
                      | ((with_reducible apply te_val); exact rfl; (intro _ _ _ h; cases h); (focus (simp only [go_sem, hNE, hA, hlt, hle, hw5, hx2, hlt2, encP]; first | done | exact rfl)))
                      | ((with_reducible apply te_callS); (focus (simp only [go_sem, hNE, hA, hlt, hle, hw5, hx2, hlt2, encP]; first | done | exact rfl)); (focus (simp only [go_sem, hNE, hA, hlt, hle, hw5, hx2, hlt2, encP]; first | done | exact rfl)); (focus (simp only [go_sem, hNE, hA, hlt, hle, hw5, hx2, hlt2, encP]; first | done | exact rfl)); (first | exact q48a | exact q48b | exact qa))
                      | ((with_reducible apply t_cond); (focus (simp only [go_sem, hNE, hA, hlt, hle, hw5, hx2, hlt2, encP]; first | done | exact rfl)))
                      | (with_reducible intro hc; with_reducible exact Bool.noConfusion hc)
                      | (with_reducible intro hc; have hC := And.intro hC hc))
                  (with_reducible apply te_append2)
                  · exact app_22
                  · exact c_42
                  · (focus (simp only [go_sem]; first | done | exact rfl))
                  · exact hacc
                  · (focus (simp only [go_sem]; first | done | exact rfl))
                  · exact rfl
                  · (focus (simp only [go_sem]; done))
                  · rw [List.length_map, hTl, b_42]; simp only [roomB, List.length_singleton]; omega
                  intro u Hn hacc
                  rw [show ((turnL l tn i).map encP ++ [PV.agg [PV.str (atL l ((i + tn) % l.length)).name, PV.list LK.any (List.map encD (atL l ((i + tn) % l.length)).ds)]]) = (turnL l tn (i + 1)).map encP by rw [turnL_succ, List.map_append]; rfl] at hacc
                  by_cases hin : i = n
                  · have hin' : ((i : Int) = (n : Int)) = True := eq_true (by omega)
                    (have hA := And.intro e0_0 (And.intro e0_1 (And.intro e0_2 (And.intro e0_9 (And.intro e0_13 (And.intro e0_14 (And.intro h0_15 (And.intro e4_0 (And.intro e4_1 (And.intro e4_2 (And.intro e4_6 (And.intro e4_13 (h4_21)))))))))))); have hNE := True.intro; have hC := True.intro; repeat' first
                        | with_reducible refine k_seq ?_
                        | with_reducible refine t_seq ?_
                        | with_reducible refine t_reg ?_
                        | with_reducible refine t_nil ?_
                        | with_reducible refine t_skip ?_
                        | with_reducible refine k_blk ?_
                        | ((with_reducible apply te_val); exact rfl; (intro _ _ _ h; cases h); (focus (simp only [go_sem, hNE, hA, hin']; first | done | exact rfl)))
                        | ((with_reducible apply t_cond); (focus (simp only [go_sem, hNE, hA, hin']; first | done | exact rfl)))
                        | (with_reducible intro hc; with_reducible exact Bool.noConfusion hc)
                        | (with_reducible intro hc; have hC := And.intro hC hc))
                    refine k_invE (k4 - 1) (by omega) ⟨i + 1, (by omega), ?_, (by simp only [go_sem, e0_0, e0_1, e0_2, e0_9, e0_13, e0_14, h0_15, e4_0, e4_1, e4_2, e4_6, e4_13, h4_21, hw]; first | done | rfl)⟩
                    rw [othersL_succ, if_pos hin, List.append_nil]
                    exact hacc
                  · have hin' : ((i : Int) = (n : Int)) = False := eq_false (by omega)
                    (have hA := And.intro e0_0 (And.intro e0_1 (And.intro e0_2 (And.intro e0_9 (And.intro e0_13 (And.intro e0_14 (And.intro h0_15 (And.intro e4_0 (And.intro e4_1 (And.intro e4_2 (And.intro e4_6 (And.intro e4_13 (h4_21)))))))))))); have hNE := True.intro; have hC := True.intro; repeat' first
                        | with_reducible refine k_seq ?_
                        | with_reducible refine t_seq ?_
                        | with_reducible refine t_reg ?_
                        | with_reducible refine t_nil ?_
                        | ((with_reducible apply te_val); exact rfl; (intro _ _ _ h; cases h); (focus (simp only [go_sem, hNE, hA, hin', hlt, hle, hx, encP]; first | done | exact rfl)))
                        | ((with_reducible apply te_callS); (focus (simp only [go_sem, hNE, hA, hin', hlt, hle, hx, encP]; first | done | exact rfl)); (focus (simp only [go_sem, hNE, hA, hin', hlt, hle, hx, encP]; first | done | exact rfl)); (focus (simp only [go_sem, hNE, hA, hin', hlt, hle, hx, encP]; first | done | exact rfl)); (first | exact qb))
                        | ((with_reducible apply t_cond); (focus (simp only [go_sem, hNE, hA, hin', hlt, hle, hx, encP]; first | done | exact rfl)))
                        | (with_reducible intro hc; with_reducible exact Bool.noConfusion hc)
                        | (with_reducible intro hc; have hC := And.intro hC hc))
                    (with_reducible apply te_append2)
                    · exact app_22
                    · exact c_42
                    · (focus (simp only [go_sem]; first | done | exact rfl))
                    · exact hacc.symm
                    · (focus (simp only [go_sem]; first | done | exact rfl))
                    · exact rfl
                    · (focus (simp only [go_sem]; done))
                    · rw [List.length_map, b_42]; simp only [roomB, List.length_singleton]; omega
                    intro u2 Hn2 hacc
                    (have hA := And.intro e0_0 (And.intro e0_1 (And.intro e0_2 (And.intro e0_9 (And.intro e0_13 (And.intro e0_14 (And.intro h0_15 (And.intro e4_0 (And.intro e4_1 (And.intro e4_2 (And.intro e4_6 (And.intro e4_13 (h4_21)))))))))))); have hNE := True.intro; have hC := True.intro; repeat' first
                        | with_reducible refine k_seq ?_
                        | with_reducible refine t_reg ?_
                        | with_reducible refine t_nil ?_
                        | with_reducible refine k_blk ?_
                        | ((with_reducible apply te_val); exact rfl; (intro _ _ _ h; cases h); (focus (simp only [go_sem, hNE, hA]; first | done | exact rfl))))
                    refine k_invE (k4 - 1) (by omega) ⟨i + 1, (by omega), ?_, (by simp only [go_sem, e0_0, e0_1, e0_2, e0_9, e0_13, e0_14, h0_15, e4_0, e4_1, e4_2, e4_6, e4_13, h4_21, hw]; first | done | rfl)⟩
                    rw [othersL_succ, if_neg hin, List.map_append]
                    exact hacc.symm
                · have hlt := nlt_int hi
                  have hie : i = l.length := by omega
                  subst hie
                  have hTl : (turnL l tn l.length).length = l.length := by unfold turnL; simp
                  obtain ⟨hT, hO, hsep⟩ := hacc
                  have htk : List.take l.length (turnL l tn l.length) = turnL l tn l.length := List.take_of_length_le (by rw [hTl]; exact Nat.le_refl _)
                  rcases hT with ⟨hz, _⟩ | ⟨lT, hT1, hT2⟩
                  · exfalso
                    have := congrArg List.length hz
                    rw [List.length_map, hTl, List.length_nil] at this
                    omega
                  · rw [List.length_map, hTl] at hT1
                    have hTm := turnL_get (l := l) (t := tn) hm1
                    rw [hm2] at hTm
                    rcases hO with ⟨hz, q, hq, hO1⟩ | ⟨lO, hO1, hO2⟩
                    · have hOe : othersL l n l.length = [] := List.map_eq_nil_iff.1 hz
                      rw [hOe] at q15O
                      simp only [List.map_nil] at q15O
                      (have hA := And.intro e0_0 (And.intro e0_1 (And.intro e0_2 (And.intro e0_9 (And.intro e0_13 (And.intro e0_14 (And.intro h0_15 (And.intro e4_0 (And.intro e4_1 (And.intro e4_2 (And.intro e4_6 (And.intro e4_13 (h4_21)))))))))))); have hNE := True.intro; have hC := True.intro; repeat' first
                          | ((with_reducible apply te_drwA); (focus (simp only [effFlA, List.map_cons, List.map_nil]; exact rfl)); (focus decide +kernel))
                          | with_reducible refine k_seq ?_
                          | with_reducible refine t_seq ?_
                          | with_reducible refine t_reg ?_
                          | with_reducible refine t_nil ?_
                          | with_reducible refine t_ret ?_
                          | with_reducible refine t_exit ?_
                          | with_reducible refine k_seq_exit ?_
                          | with_reducible refine k_blk_exit ?_
                          | with_reducible refine k_invE_exit ?_
                          | with_reducible refine m_nil ?_
                          | ((with_reducible apply te_val); exact rfl; (intro _ _ _ h; cases h); (focus (simp only [go_sem, hNE, hA, hlt, hTl, htk, hT1, hT2, hO1, hq, clPs, nmP, nmA, hm3, hm4, HW, hTm, hpn, hnl, hle0, encP, cast0]; first | done | exact rfl)))
                          | ((with_reducible apply te_callS); (focus (simp only [go_sem, hNE, hA, hlt, hTl, htk, hT1, hT2, hO1, hq, clPs, nmP, nmA, hm3, hm4, HW, hTm, hpn, hnl, hle0, encP, cast0]; first | done | exact rfl)); (focus (simp only [go_sem, hNE, hA, hlt, hTl, htk, hT1, hT2, hO1, hq, clPs, nmP, nmA, hm3, hm4, HW, hTm, hpn, hnl, hle0, encP, cast0]; first | done | exact rfl)); (focus (simp only [go_sem, hNE, hA, hlt, hTl, htk, hT1, hT2, hO1, hq, clPs, nmP, nmA, hm3, hm4, HW, hTm, hpn, hnl, hle0, encP, cast0]; first | done | exact rfl)); (first | exact p17 c hc1 | exact q18T | exact q15O | exact p47b _ _ _))
                          | ((with_reducible apply te_callO); (focus (simp only [go_sem, hNE, hA, hlt, hTl, htk, hT1, hT2, hO1, hq, clPs, nmP, nmA, hm3, hm4, HW, hTm, hpn, hnl, hle0, encP, cast0]; first | done | exact rfl)); (focus (simp only [go_sem, hNE, hA, hlt, hTl, htk, hT1, hT2, hO1, hq, clPs, nmP, nmA, hm3, hm4, HW, hTm, hpn, hnl, hle0, encP, cast0]; first | done | exact rfl)); (focus (simp only [go_sem, hNE, hA, hlt, hTl, htk, hT1, hT2, hO1, hq, clPs, nmP, nmA, hm3, hm4, HW, hTm, hpn, hnl, hle0, encP, cast0]; first | done | exact rfl)); (first | exact p17 c hc1 | exact q18T | exact q15O | exact p47b _ _ _); exact rfl)
                          | ((with_reducible apply me_val); exact rfl; (intro _ _ _ h; cases h); (focus (simp only [go_sem, hNE, hA, hlt, hTl, htk, hT1, hT2, hO1, hq, clPs, nmP, nmA, hm3, hm4, HW, hTm, hpn, hnl, hle0, encP, cast0]; first | done | exact rfl)))
                          | ((with_reducible apply me_gval); exact rfl; (focus (simp only [go_sem, hNE, hA, hlt, hTl, htk, hT1, hT2, hO1, hq, clPs, nmP, nmA, hm3, hm4, HW, hTm, hpn, hnl, hle0, encP, cast0]; first | done | exact rfl)); exact rfl; (intro _ _ _ h; cases h); (focus (intro hG; simp only [go_sem, hNE, hA, hlt, hTl, htk, hT1, hT2, hO1, hq, clPs, nmP, nmA, hm3, hm4, HW, hTm, hpn, hnl, hle0, encP, cast0, hG]; first | done | exact rfl)))
                          | ((with_reducible apply me_gcallS); exact rfl; (focus (simp only [go_sem, hNE, hA, hlt, hTl, htk, hT1, hT2, hO1, hq, clPs, nmP, nmA, hm3, hm4, HW, hTm, hpn, hnl, hle0, encP, cast0]; first | done | exact rfl)); (focus (simp only [go_sem, hNE, hA, hlt, hTl, htk, hT1, hT2, hO1, hq, clPs, nmP, nmA, hm3, hm4, HW, hTm, hpn, hnl, hle0, encP, cast0]; first | done | exact rfl)); (focus (intro hG; simp only [go_sem, hNE, hA, hlt, hTl, htk, hT1, hT2, hO1, hq, clPs, nmP, nmA, hm3, hm4, HW, hTm, hpn, hnl, hle0, encP, cast0, hG]; first | done | exact rfl)); (focus (simp only [go_sem, hNE, hA, hlt, hTl, htk, hT1, hT2, hO1, hq, clPs, nmP, nmA, hm3, hm4, HW, hTm, hpn, hnl, hle0, encP, cast0]; done)); (intro hG; first | exact p17 c hc1 | exact q18T | exact q15O | exact p47b _ _ _))
                          | ((with_reducible apply t_cond); (focus (simp only [go_sem, hNE, hA, hlt, hTl, htk, hT1, hT2, hO1, hq, clPs, nmP, nmA, hm3, hm4, HW, hTm, hpn, hnl, hle0, encP, cast0]; first | done | exact rfl)))
                          | (with_reducible intro hc; with_reducible exact Bool.noConfusion hc)
                          | (with_reducible intro hc; have hC := And.intro hC hc))
                      (first | apply pend rs11 | apply pendN rs11); (focus (simp only [go_sem, e0_0, e0_1, e0_2, e0_9, e0_13, e0_14, h0_15, e4_0, e4_1, e4_2, e4_6, e4_13, h4_21]; first | done | exact rfl)); (focus (simp only [go_sem, e0_0, e0_1, e0_2, e0_9, e0_13, e0_14, h0_15, e4_0, e4_1, e4_2, e4_6, e4_13, h4_21]; first | done | exact rfl))
                    · have hne : (lT = lO) = False := eq_false (by rw [hT1, hO1] at hsep; exact hsep)
                      (have hA := And.intro e0_0 (And.intro e0_1 (And.intro e0_2 (And.intro e0_9 (And.intro e0_13 (And.intro e0_14 (And.intro h0_15 (And.intro e4_0 (And.intro e4_1 (And.intro e4_2 (And.intro e4_6 (And.intro e4_13 (h4_21)))))))))))); have hNE := True.intro; have hC := True.intro; repeat' first
                          | with_reducible refine k_seq ?_
                          | with_reducible refine t_seq ?_
                          | with_reducible refine t_reg ?_
                          | with_reducible refine t_nil ?_
                          | with_reducible refine t_exit ?_
                          | with_reducible refine k_seq_exit ?_
                          | with_reducible refine k_blk_exit ?_
                          | with_reducible refine k_invE_exit ?_
                          | ((with_reducible apply te_val); exact rfl; (intro _ _ _ h; cases h); (focus (simp only [go_sem, hNE, hA, hlt, hTl, htk, hT1, hT2, hO1, hO2, clPs, nmP, nmA, HW, encP, cast0]; first | done | exact rfl)))
                          | ((with_reducible apply te_callS); (focus (simp only [go_sem, hNE, hA, hlt, hTl, htk, hT1, hT2, hO1, hO2, clPs, nmP, nmA, HW, encP, cast0]; first | done | exact rfl)); (focus (simp only [go_sem, hNE, hA, hlt, hTl, htk, hT1, hT2, hO1, hO2, clPs, nmP, nmA, HW, encP, cast0]; first | done | exact rfl)); (focus (simp only [go_sem, hNE, hA, hlt, hTl, htk, hT1, hT2, hO1, hO2, clPs, nmP, nmA, HW, encP, cast0]; first | done | exact rfl)); (first | exact p17 c hc1 | exact q18T | exact p47b _ _ _))
                          | ((with_reducible apply te_callO); (focus (simp only [go_sem, hNE, hA, hlt, hTl, htk, hT1, hT2, hO1, hO2, clPs, nmP, nmA, HW, encP, cast0]; first | done | exact rfl)); (focus (simp only [go_sem, hNE, hA, hlt, hTl, htk, hT1, hT2, hO1, hO2, clPs, nmP, nmA, HW, encP, cast0]; first | done | exact rfl)); (focus (simp only [go_sem, hNE, hA, hlt, hTl, htk, hT1, hT2, hO1, hO2, clPs, nmP, nmA, HW, encP, cast0]; first | done | exact rfl)); (first | exact p17 c hc1 | exact q18T | exact p47b _ _ _); exact rfl)
                          | ((with_reducible apply t_cond); (focus (simp only [go_sem, hNE, hA, hlt, hTl, htk, hT1, hT2, hO1, hO2, clPs, nmP, nmA, HW, encP, cast0]; first | done | exact rfl)))
                          | (with_reducible intro hc; with_reducible exact Bool.noConfusion hc)
                          | (with_reducible intro hc; have hC := And.intro hC hc))
                      (with_reducible apply te_callF [lO])
                      · (focus (simp only [go_sem]; first | done | exact rfl))
                      · (focus (simp only [go_sem, hO1, hO2, e4_1]; first | done | exact rfl))
                      · (focus (simp only [go_sem, hO1, hO2, clPs, nmP, nmA, nmP6, clAs]; first | done | exact rfl))
                      · exact q15O
                      (have hA := And.intro e0_0 (And.intro e0_1 (And.intro e0_2 (And.intro e0_9 (And.intro e0_13 (And.intro e0_14 (And.intro h0_15 (And.intro e4_0 (And.intro e4_1 (And.intro e4_2 (And.intro e4_6 (And.intro e4_13 (h4_21)))))))))))); have hNE := True.intro; have hC := True.intro; repeat' first
                          | ((with_reducible apply te_drwA); (focus (simp only [effFlA, List.map_cons, List.map_nil]; exact rfl)); (focus decide +kernel))
                          | with_reducible refine k_seq ?_
                          | with_reducible refine t_seq ?_
                          | with_reducible refine t_nil ?_
                          | with_reducible refine t_ret ?_
                          | with_reducible refine m_nil ?_
                          | ((with_reducible apply te_val); exact rfl; (intro _ _ _ h; cases h); (focus (simp only [go_sem, hNE, hA, hlt, hTl, htk, hT1, hT2, hO1, hO2, hne, hm3, hm4, HW, hTm, hpn, hnl, hle0, encP, cast0]; first | done | exact rfl)))
                          | ((with_reducible apply me_val); exact rfl; (intro _ _ _ h; cases h); (focus (simp only [go_sem, hNE, hA, hlt, hTl, htk, hT1, hT2, hO1, hO2, hne, hm3, hm4, HW, hTm, hpn, hnl, hle0, encP, cast0]; first | done | exact rfl)))
                          | ((with_reducible apply me_gval); exact rfl; (focus (simp only [go_sem, hNE, hA, hlt, hTl, htk, hT1, hT2, hO1, hO2, hne, hm3, hm4, HW, hTm, hpn, hnl, hle0, encP, cast0]; first | done | exact rfl)); exact rfl; (intro _ _ _ h; cases h); (focus (intro hG; simp only [go_sem, hNE, hA, hlt, hTl, htk, hT1, hT2, hO1, hO2, hne, hm3, hm4, HW, hTm, hpn, hnl, hle0, encP, cast0, hG]; first | done | exact rfl)))
                          | ((with_reducible apply me_gcallS); exact rfl; (focus (simp only [go_sem, hNE, hA, hlt, hTl, htk, hT1, hT2, hO1, hO2, hne, hm3, hm4, HW, hTm, hpn, hnl, hle0, encP, cast0]; first | done | exact rfl)); (focus (simp only [go_sem, hNE, hA, hlt, hTl, htk, hT1, hT2, hO1, hO2, hne, hm3, hm4, HW, hTm, hpn, hnl, hle0, encP, cast0]; first | done | exact rfl)); (focus (intro hG; simp only [go_sem, hNE, hA, hlt, hTl, htk, hT1, hT2, hO1, hO2, hne, hm3, hm4, HW, hTm, hpn, hnl, hle0, encP, cast0, hG]; first | done | exact rfl)); (focus (simp only [go_sem, hNE, hA, hlt, hTl, htk, hT1, hT2, hO1, hO2, hne, hm3, hm4, HW, hTm, hpn, hnl, hle0, encP, cast0]; done)); (intro hG; first | exact p17 c hc1 | exact p47b _ _ _)))
                      (first | apply pend rs11 | apply pendN rs11); (focus (simp only [go_sem, e0_0, e0_1, e0_2, e0_9, e0_13, e0_14, h0_15, e4_0, e4_1, e4_2, e4_6, e4_13, h4_21]; first | done | exact rfl)); (focus (simp only [go_sem, e0_0, e0_1, e0_2, e0_9, e0_13, e0_14, h0_15, e4_0, e4_1, e4_2, e4_6, e4_13, h4_21]; first | done | exact rfl))
            | some z =>
              rw [h1] at q43
              (refine ppure_of_T ok11 (by simp only [List.length_cons, List.length_nil]; decide) ?_; refine t_seq ?_)
              (have hNE := True.intro; have hC := True.intro; repeat' first
                  | with_reducible refine k_seq ?_
                  | with_reducible refine t_seq ?_
                  | with_reducible refine t_reg ?_
                  | with_reducible refine t_nil ?_
                  | with_reducible refine t_skip ?_
                  | with_reducible refine t_block ?_
                  | ((with_reducible apply te_val); exact rfl; (intro _ _ _ h; cases h); (focus (simp only [go_sem, hNE, h6', hD, hk, cast0]; first | done | exact rfl)))
                  | ((with_reducible apply te_callS); (focus (simp only [go_sem, hNE, h6', hD, hk, cast0]; first | done | exact rfl)); (focus (simp only [go_sem, hNE, h6', hD, hk, cast0]; first | done | exact rfl)); (focus (simp only [go_sem, hNE, h6', hD, hk, cast0]; first | done | exact rfl)); (first | exact p46 | exact q16 | exact q43 | exact q44 | exact q17 | exact q18 | exact q19 | exact q20))
                  | ((with_reducible apply te_gval); exact rfl; (focus (simp only [go_sem, hNE, h6', hD, hk, cast0]; first | done | exact rfl)); exact rfl; (intro _ _ _ h; cases h); (focus (intro hG; simp only [go_sem, hNE, h6', hD, hk, cast0, hG]; first | done | exact rfl)))
                  | ((with_reducible apply te_gcallS); exact rfl; (focus (simp only [go_sem, hNE, h6', hD, hk, cast0]; first | done | exact rfl)); (focus (simp only [go_sem, hNE, h6', hD, hk, cast0]; first | done | exact rfl)); (focus (intro hG; simp only [go_sem, hNE, h6', hD, hk, cast0, hG]; first | done | exact rfl)); (focus (simp only [go_sem, hNE, h6', hD, hk, cast0]; done)); (intro hG; first | exact p46 | exact q16 | exact q43 | exact q44 | exact q17 | exact q18 | exact q19 | exact q20))
                  | ((with_reducible apply t_cond); (focus (simp only [go_sem, hNE, h6', hD, hk, cast0]; first | done | exact rfl)))
                  | (with_reducible intro hc; with_reducible exact Bool.noConfusion hc)
                  | (with_reducible intro hc; have hC := And.intro hC hc))
              refine t_loopE (fun (k0 : Nat) (E0 : Nat → PV) (H0 : Hp) => ∃ (i : Nat), i + k0 = l.length ∧ E0 15 = .int .i64 i) (l.length) ⟨0, (by first | omega | rfl | assumption | (simp only [go_sem, cast0]; first | done | rfl | assumption | omega)), (by simp only [go_sem, cast0]; first | done | rfl)⟩ ?_
              rintro k0 E0 H0 hfr0 ⟨i, hk, h0_15⟩
              have e0_0 := hfr0 0 rfl; have e0_1 := hfr0 1 rfl; have e0_2 := hfr0 2 rfl; have e0_9 := hfr0 9 rfl; have e0_13 := hfr0 13 rfl; have e0_14 := hfr0 14 rfl
              simp only [go_sem, cast0] at e0_0 e0_1 e0_2 e0_9 e0_13 e0_14
              clear hfr0
              (have hA := And.intro e0_0 (And.intro e0_1 (And.intro e0_2 (And.intro e0_9 (And.intro e0_13 (And.intro e0_14 (h0_15)))))); have hNE := True.intro; have hC := True.intro; repeat' first
                  | with_reducible refine k_seq ?_
                  | with_reducible refine t_seq ?_
                  | with_reducible refine t_reg ?_
                  | with_reducible refine t_nil ?_
                  | with_reducible refine t_skip ?_
                  | with_reducible refine t_exit ?_
                  | with_reducible refine k_seq_exit ?_
                  | with_reducible refine k_blk_exit ?_
                  | with_reducible refine k_invE_exit ?_
                  | with_reducible refine t_block ?_
                  | ((with_reducible apply te_val); exact rfl; (intro _ _ _ h; cases h); (focus (simp only [go_sem, hNE, hA, cast0, HW, hwi, hwj]; first | done | exact rfl)))
                  | ((with_reducible apply te_callS); (focus (simp only [go_sem, hNE, hA, cast0, HW, hwi, hwj]; first | done | exact rfl)); (focus (simp only [go_sem, hNE, hA, cast0, HW, hwi, hwj]; first | done | exact rfl)); (focus (simp only [go_sem, hNE, hA, cast0, HW, hwi, hwj]; first | done | exact rfl)); (first | exact p47b _ _ _))
                  | ((with_reducible apply te_gval); exact rfl; (focus (simp only [go_sem, hNE, hA, cast0, HW, hwi, hwj]; first | done | exact rfl)); exact rfl; (intro _ _ _ h; cases h); (focus (intro hG; simp only [go_sem, hNE, hA, cast0, HW, hwi, hwj, hG]; first | done | exact rfl)))
                  | ((with_reducible apply t_cond); (focus (simp only [go_sem, hNE, hA, cast0, HW, hwi, hwj]; first | done | exact rfl)))
                  | (with_reducible intro hc; with_reducible exact Bool.noConfusion hc)
                  | (with_reducible intro hc; have hC := And.intro hC hc))
              refine t_loopE (fun (k4 : Nat) (E4 : Nat → PV) (H4 : Hp) => ∃ (i : Nat), i + k4 = l.length ∧ Acc2 H4 (E4 19) 2 ((turnL l tn i).map encP) (E4 20) 2 ((othersL l n i).map encP) ∧ E4 21 = .int .i64 i) (l.length) ⟨0, (by first | omega | rfl | assumption | (simp only [go_sem, e0_0, e0_1, e0_2, e0_9, e0_13, e0_14, h0_15, cast0, HW, hwi, hwj]; first | done | rfl | assumption | omega)), ?_, (by simp only [go_sem, e0_0, e0_1, e0_2, e0_9, e0_13, e0_14, h0_15, cast0, HW, hwi, hwj]; first | done | rfl)⟩ ?_
              · exact Acc2.nil _ _ _
              rintro k4 E4 H4 hfr4 ⟨i, hk4, hacc, h4_21⟩
              have e4_0 := hfr4 0 rfl; have e4_1 := hfr4 1 rfl; have e4_2 := hfr4 2 rfl; have e4_6 := hfr4 6 rfl; have e4_13 := hfr4 13 rfl
              simp only [go_sem, e0_0, e0_1, e0_2, e0_9, e0_13, e0_14, h0_15, cast0, HW, hwi, hwj] at e4_0 e4_1 e4_2 e4_6 e4_13
              clear hfr4
              by_cases hi : i < l.length
              · have hlt := lt_int hi
                have hle := Int.le_of_lt hlt
                have hw := wrap_next hi hl1
                have hx := atL_some hi
                have hmod := Nat.mod_lt (i + tn) (show 0 < l.length by omega)
                have hx2 := atL_some hmod
                have hlt2 : (((i + tn) % l.length : Nat) : Int) < (l.length : Int) := by omega
                have hw5 : IntKind.i64.wrap ((i : Int) + (tn : Int)) = ((i + tn : Nat) : Int) := by rw [IntKind.wrap_i64]; omega
                have q48b := p48 ((i + tn : Nat) : Int) l.length (by omega) hl1
                rw [show ((i + tn : Nat) : Int) % (l.length : Int) = (((i + tn) % l.length : Nat) : Int) from (Int.natCast_emod _ _).symm] at q48b
                have qa := copyP (itfErr_all hD _ (atL_mem hmod))
                have qb := copyP (itfErr_all hD _ (atL_mem hi))
                simp only [encP] at qa qb
                have hTl : (turnL l tn i).length = i := by unfold turnL; simp
                have hOl : (othersL l n i).length ≤ i := by
                  unfold othersL
                  rw [List.length_map]
                  have := List.length_filter_le (fun j => decide (j ≠ n)) (List.range i)
                  simpa using this
                (have hA := And.intro e0_0 (And.intro e0_1 (And.intro e0_2 (And.intro e0_9 (And.intro e0_13 (And.intro e0_14 (And.intro h0_15 (And.intro e4_0 (And.intro e4_1 (And.intro e4_2 (And.intro e4_6 (And.intro e4_13 (h4_21)))))))))))); have hNE := True.intro; have hC := True.intro; repeat' first
                    | with_reducible refine k_seq ?_
                    | with_reducible refine t_seq ?_
                    | with_reducible refine t_reg ?_
                    | with_reducible refine t_nil ?_
                    | with_reducible refine t_skip ?_
                    | with_reducible refine t_block ?_
                    | ((with_reducible apply te_val); exact rfl; (intro _ _ _ h; cases h); (focus (simp only [go_sem, hNE, hA, hlt, hle, hw5, hx2, hlt2, encP]; first | done | exact rfl)))
                    | ((with_reducible apply te_callS); (focus (simp only [go_sem, hNE, hA, hlt, hle, hw5, hx2, hlt2, encP]; first | done | exact rfl)); (focus (simp only [go_sem, hNE, hA, hlt, hle, hw5, hx2, hlt2, encP]; first | done | exact rfl)); (focus (simp only [go_sem, hNE, hA, hlt, hle, hw5, hx2, hlt2, encP]; first | done | exact rfl)); (first | exact q48a | exact q48b | exact qa))
                    | ((with_reducible apply t_cond); (focus (simp only [go_sem, hNE, hA, hlt, hle, hw5, hx2, hlt2, encP]; first | done | exact rfl)))
                    | (with_reducible intro hc; with_reducible exact Bool.noConfusion hc)
                    | (with_reducible intro hc; have hC := And.intro hC hc))
                (with_reducible apply te_append2)
                · exact app_22
                · exact c_42
                · (focus (simp only [go_sem]; first | done | exact rfl))
                · exact hacc
                · (focus (simp only [go_sem]; first | done | exact rfl))
                · exact rfl
                · (focus (simp only [go_sem]; done))
                · rw [List.length_map, hTl, b_42]; simp only [roomB, List.length_singleton]; omega
                intro u Hn hacc
                rw [show ((turnL l tn i).map encP ++ [PV.agg [PV.str (atL l ((i + tn) % l.length)).name, PV.list LK.any (List.map encD (atL l ((i + tn) % l.length)).ds)]]) = (turnL l tn (i + 1)).map encP by rw [turnL_succ, List.map_append]; rfl] at hacc
                by_cases hin : i = n
                · have hin' : ((i : Int) = (n : Int)) = True := eq_true (by omega)
                  (have hA := And.intro e0_0 (And.intro e0_1 (And.intro e0_2 (And.intro e0_9 (And.intro e0_13 (And.intro e0_14 (And.intro h0_15 (And.intro e4_0 (And.intro e4_1 (And.intro e4_2 (And.intro e4_6 (And.intro e4_13 (h4_21)))))))))))); have hNE := True.intro; have hC := True.intro; repeat' first
                      | with_reducible refine k_seq ?_
                      | with_reducible refine t_seq ?_
                      | with_reducible refine t_reg ?_
                      | with_reducible refine t_nil ?_
                      | with_reducible refine t_skip ?_
                      | with_reducible refine k_blk ?_
                      | ((with_reducible apply te_val); exact rfl; (intro _ _ _ h; cases h); (focus (simp only [go_sem, hNE, hA, hin']; first | done | exact rfl)))
                      | ((with_reducible apply t_cond); (focus (simp only [go_sem, hNE, hA, hin']; first | done | exact rfl)))
                      | (with_reducible intro hc; with_reducible exact Bool.noConfusion hc)
                      | (with_reducible intro hc; have hC := And.intro hC hc))
                  refine k_invE (k4 - 1) (by omega) ⟨i + 1, (by omega), ?_, (by simp only [go_sem, e0_0, e0_1, e0_2, e0_9, e0_13, e0_14, h0_15, e4_0, e4_1, e4_2, e4_6, e4_13, h4_21, hw]; first | done | rfl)⟩
                  rw [othersL_succ, if_pos hin, List.append_nil]
                  exact hacc
                · have hin' : ((i : Int) = (n : Int)) = False := eq_false (by omega)
                  (have hA := And.intro e0_0 (And.intro e0_1 (And.intro e0_2 (And.intro e0_9 (And.intro e0_13 (And.intro e0_14 (And.intro h0_15 (And.intro e4_0 (And.intro e4_1 (And.intro e4_2 (And.intro e4_6 (And.intro e4_13 (h4_21)))))))))))); have hNE := True.intro; have hC := True.intro; repeat' first
                      | with_reducible refine k_seq ?_
                      | with_reducible refine t_seq ?_
                      | with_reducible refine t_reg ?_
                      | with_reducible refine t_nil ?_
                      | ((with_reducible apply te_val); exact rfl; (intro _ _ _ h; cases h); (focus (simp only [go_sem, hNE, hA, hin', hlt, hle, hx, encP]; first | done | exact rfl)))
                      | ((with_reducible apply te_callS); (focus (simp only [go_sem, hNE, hA, hin', hlt, hle, hx, encP]; first | done | exact rfl)); (focus (simp only [go_sem, hNE, hA, hin', hlt, hle, hx, encP]; first | done | exact rfl)); (focus (simp only [go_sem, hNE, hA, hin', hlt, hle, hx, encP]; first | done | exact rfl)); (first | exact qb))
                      | ((with_reducible apply t_cond); (focus (simp only [go_sem, hNE, hA, hin', hlt, hle, hx, encP]; first | done | exact rfl)))
                      | (with_reducible intro hc; with_reducible exact Bool.noConfusion hc)
                      | (with_reducible intro hc; have hC := And.intro hC hc))
                  (with_reducible apply te_append2)
                  · exact app_22
                  · exact c_42
                  · (focus (simp only [go_sem]; first | done | exact rfl))
                  · exact hacc.symm
                  · (focus (simp only [go_sem]; first | done | exact rfl))
                  · exact rfl
                  · (focus (simp only [go_sem]; done))
                  · rw [List.length_map, b_42]; simp only [roomB, List.length_singleton]; omega
                  intro u2 Hn2 hacc
                  (have hA := And.intro e0_0 (And.intro e0_1 (And.intro e0_2 (And.intro e0_9 (And.intro e0_13 (And.intro e0_14 (And.intro h0_15 (And.intro e4_0 (And.intro e4_1 (And.intro e4_2 (And.intro e4_6 (And.intro e4_13 (h4_21)))))))))))); have hNE := True.intro; have hC := True.intro; repeat' first
                      | with_reducible refine k_seq ?_
                      | with_reducible refine t_reg ?_
                      | with_reducible refine t_nil ?_
                      | with_reducible refine k_blk ?_
                      | ((with_reducible apply te_val); exact rfl; (intro _ _ _ h; cases h); (focus (simp only [go_sem, hNE, hA]; first | done | exact rfl))))
                  refine k_invE (k4 - 1) (by omega) ⟨i + 1, (by omega), ?_, (by simp only [go_sem, e0_0, e0_1, e0_2, e0_9, e0_13, e0_14, h0_15, e4_0, e4_1, e4_2, e4_6, e4_13, h4_21, hw]; first | done | rfl)⟩
                  rw [othersL_succ, if_neg hin, List.map_append]
                  exact hacc.symm
              · have hlt := nlt_int hi
                have hie : i = l.length := by omega
                subst hie
                have hTl : (turnL l tn l.length).length = l.length := by unfold turnL; simp
                obtain ⟨hT, hO, hsep⟩ := hacc
                have htk : List.take l.length (turnL l tn l.length) = turnL l tn l.length := List.take_of_length_le (by rw [hTl]; exact Nat.le_refl _)
                rcases hT with ⟨hz, _⟩ | ⟨lT, hT1, hT2⟩
                · exfalso
                  have := congrArg List.length hz
                  rw [List.length_map, hTl, List.length_nil] at this
                  omega
                · rw [List.length_map, hTl] at hT1
                  have hTm := turnL_get (l := l) (t := tn) hm1
                  rw [hm2] at hTm
                  rcases hO with ⟨hz, q, hq, hO1⟩ | ⟨lO, hO1, hO2⟩
                  · have hOe : othersL l n l.length = [] := List.map_eq_nil_iff.1 hz
                    rw [hOe] at q15O
                    simp only [List.map_nil] at q15O
                    (have hA := And.intro e0_0 (And.intro e0_1 (And.intro e0_2 (And.intro e0_9 (And.intro e0_13 (And.intro e0_14 (And.intro h0_15 (And.intro e4_0 (And.intro e4_1 (And.intro e4_2 (And.intro e4_6 (And.intro e4_13 (h4_21)))))))))))); have hNE := True.intro; have hC := True.intro; repeat' first
                        | ((with_reducible apply te_drwA); (focus (simp only [effFlA, List.map_cons, List.map_nil]; exact rfl)); (focus decide +kernel))
                        | with_reducible refine k_seq ?_
                        | with_reducible refine t_seq ?_
                        | with_reducible refine t_reg ?_
                        | with_reducible refine t_nil ?_
                        | with_reducible refine t_ret ?_
                        | with_reducible refine t_exit ?_
                        | with_reducible refine k_seq_exit ?_
                        | with_reducible refine k_blk_exit ?_
                        | with_reducible refine k_invE_exit ?_
                        | with_reducible refine m_nil ?_
                        | ((with_reducible apply te_val); exact rfl; (intro _ _ _ h; cases h); (focus (simp only [go_sem, hNE, hA, hlt, hTl, htk, hT1, hT2, hO1, hq, clPs, nmP, nmA, hm3, hm4, HW, hTm, hpn, hnl, hle0, encP, cast0]; first | done | exact rfl)))
                        | ((with_reducible apply te_callS); (focus (simp only [go_sem, hNE, hA, hlt, hTl, htk, hT1, hT2, hO1, hq, clPs, nmP, nmA, hm3, hm4, HW, hTm, hpn, hnl, hle0, encP, cast0]; first | done | exact rfl)); (focus (simp only [go_sem, hNE, hA, hlt, hTl, htk, hT1, hT2, hO1, hq, clPs, nmP, nmA, hm3, hm4, HW, hTm, hpn, hnl, hle0, encP, cast0]; first | done | exact rfl)); (focus (simp only [go_sem, hNE, hA, hlt, hTl, htk, hT1, hT2, hO1, hq, clPs, nmP, nmA, hm3, hm4, HW, hTm, hpn, hnl, hle0, encP, cast0]; first | done | exact rfl)); (first | exact p17 c hc1 | exact q18T | exact q15O | exact p47b _ _ _))
                        | ((with_reducible apply te_callO); (focus (simp only [go_sem, hNE, hA, hlt, hTl, htk, hT1, hT2, hO1, hq, clPs, nmP, nmA, hm3, hm4, HW, hTm, hpn, hnl, hle0, encP, cast0]; first | done | exact rfl)); (focus (simp only [go_sem, hNE, hA, hlt, hTl, htk, hT1, hT2, hO1, hq, clPs, nmP, nmA, hm3, hm4, HW, hTm, hpn, hnl, hle0, encP, cast0]; first | done | exact rfl)); (focus (simp only [go_sem, hNE, hA, hlt, hTl, htk, hT1, hT2, hO1, hq, clPs, nmP, nmA, hm3, hm4, HW, hTm, hpn, hnl, hle0, encP, cast0]; first | done | exact rfl)); (first | exact p17 c hc1 | exact q18T | exact q15O | exact p47b _ _ _); exact rfl)
                        | ((with_reducible apply me_val); exact rfl; (intro _ _ _ h; cases h); (focus (simp only [go_sem, hNE, hA, hlt, hTl, htk, hT1, hT2, hO1, hq, clPs, nmP, nmA, hm3, hm4, HW, hTm, hpn, hnl, hle0, encP, cast0]; first | done | exact rfl)))
                        | ((with_reducible apply me_gval); exact rfl; (focus (simp only [go_sem, hNE, hA, hlt, hTl, htk, hT1, hT2, hO1, hq, clPs, nmP, nmA, hm3, hm4, HW, hTm, hpn, hnl, hle0, encP, cast0]; first | done | exact rfl)); exact rfl; (intro _ _ _ h; cases h); (focus (intro hG; simp only [go_sem, hNE, hA, hlt, hTl, htk, hT1, hT2, hO1, hq, clPs, nmP, nmA, hm3, hm4, HW, hTm, hpn, hnl, hle0, encP, cast0, hG]; first | done | exact rfl)))
                        | ((with_reducible apply me_gcallS); exact rfl; (focus (simp only [go_sem, hNE, hA, hlt, hTl, htk, hT1, hT2, hO1, hq, clPs, nmP, nmA, hm3, hm4, HW, hTm, hpn, hnl, hle0, encP, cast0]; first | done | exact rfl)); (focus (simp only [go_sem, hNE, hA, hlt, hTl, htk, hT1, hT2, hO1, hq, clPs, nmP, nmA, hm3, hm4, HW, hTm, hpn, hnl, hle0, encP, cast0]; first | done | exact rfl)); (focus (intro hG; simp only [go_sem, hNE, hA, hlt, hTl, htk, hT1, hT2, hO1, hq, clPs, nmP, nmA, hm3, hm4, HW, hTm, hpn, hnl, hle0, encP, cast0, hG]; first | done | exact rfl)); (focus (simp only [go_sem, hNE, hA, hlt, hTl, htk, hT1, hT2, hO1, hq, clPs, nmP, nmA, hm3, hm4, HW, hTm, hpn, hnl, hle0, encP, cast0]; done)); (intro hG; first | exact p17 c hc1 | exact q18T | exact q15O | exact p47b _ _ _))
                        | ((with_reducible apply t_cond); (focus (simp only [go_sem, hNE, hA, hlt, hTl, htk, hT1, hT2, hO1, hq, clPs, nmP, nmA, hm3, hm4, HW, hTm, hpn, hnl, hle0, encP, cast0]; first | done | exact rfl)))
                        | (with_reducible intro hc; with_reducible exact Bool.noConfusion hc)
                        | (with_reducible intro hc; have hC := And.intro hC hc))
                    (first | apply pend rs11 | apply pendN rs11); (focus (simp only [go_sem, e0_0, e0_1, e0_2, e0_9, e0_13, e0_14, h0_15, e4_0, e4_1, e4_2, e4_6, e4_13, h4_21]; first | done | exact rfl)); (focus (simp only [go_sem, e0_0, e0_1, e0_2, e0_9, e0_13, e0_14, h0_15, e4_0, e4_1, e4_2, e4_6, e4_13, h4_21]; first | done | exact rfl))
                  · have hne : (lT = lO) = False := eq_false (by rw [hT1, hO1] at hsep; exact hsep)
                    (have hA := And.intro e0_0 (And.intro e0_1 (And.intro e0_2 (And.intro e0_9 (And.intro e0_13 (And.intro e0_14 (And.intro h0_15 (And.intro e4_0 (And.intro e4_1 (And.intro e4_2 (And.intro e4_6 (And.intro e4_13 (h4_21)))))))))))); have hNE := True.intro; have hC := True.intro; repeat' first
                        | with_reducible refine k_seq ?_
                        | with_reducible refine t_seq ?_
                        | with_reducible refine t_reg ?_
                        | with_reducible refine t_nil ?_
                        | with_reducible refine t_exit ?_
                        | with_reducible refine k_seq_exit ?_
                        | with_reducible refine k_blk_exit ?_
                        | with_reducible refine k_invE_exit ?_
                        | ((with_reducible apply te_val); exact rfl; (intro _ _ _ h; cases h); (focus (simp only [go_sem, hNE, hA, hlt, hTl, htk, hT1, hT2, hO1, hO2, clPs, nmP, nmA, HW, encP, cast0]; first | done | exact rfl)))
                        | ((with_reducible apply te_callS); (focus (simp only [go_sem, hNE, hA, hlt, hTl, htk, hT1, hT2, hO1, hO2, clPs, nmP, nmA, HW, encP, cast0]; first | done | exact rfl)); (focus (simp only [go_sem, hNE, hA, hlt, hTl, htk, hT1, hT2, hO1, hO2, clPs, nmP, nmA, HW, encP, cast0]; first | done | exact rfl)); (focus (simp only [go_sem, hNE, hA, hlt, hTl, htk, hT1, hT2, hO1, hO2, clPs, nmP, nmA, HW, encP, cast0]; first | done | exact rfl)); (first | exact p17 c hc1 | exact q18T | exact p47b _ _ _))
                        | ((with_reducible apply te_callO); (focus (simp only [go_sem, hNE, hA, hlt, hTl, htk, hT1, hT2, hO1, hO2, clPs, nmP, nmA, HW, encP, cast0]; first | done | exact rfl)); (focus (simp only [go_sem, hNE, hA, hlt, hTl, htk, hT1, hT2, hO1, hO2, clPs, nmP, nmA, HW, encP, cast0]; first | done | exact rfl)); (focus (simp only [go_sem, hNE, hA, hlt, hTl, htk, hT1, hT2, hO1, hO2, clPs, nmP, nmA, HW, encP, cast0]; first | done | exact rfl)); (first | exact p17 c hc1 | exact q18T | exact p47b _ _ _); exact rfl)
                        | ((with_reducible apply t_cond); (focus (simp only [go_sem, hNE, hA, hlt, hTl, htk, hT1, hT2, hO1, hO2, clPs, nmP, nmA, HW, encP, cast0]; first | done | exact rfl)))
                        | (with_reducible intro hc; with_reducible exact Bool.noConfusion hc)
                        | (with_reducible intro hc; have hC := And.intro hC hc))
                    (with_reducible apply te_callF [lO])
                    · (focus (simp only [go_sem]; first | done | exact rfl))
                    · (focus (simp only [go_sem, hO1, hO2, e4_1]; first | done | exact rfl))
                    · (focus (simp only [go_sem, hO1, hO2, clPs, nmP, nmA, nmP6, clAs]; first | done | exact rfl))
                    · exact q15O
                    (have hA := And.intro e0_0 (And.intro e0_1 (And.intro e0_2 (And.intro e0_9 (And.intro e0_13 (And.intro e0_14 (And.intro h0_15 (And.intro e4_0 (And.intro e4_1 (And.intro e4_2 (And.intro e4_6 (And.intro e4_13 (h4_21)))))))))))); have hNE := True.intro; have hC := True.intro; repeat' first
                        | ((with_reducible apply te_drwA); (focus (simp only [effFlA, List.map_cons, List.map_nil]; exact rfl)); (focus decide +kernel))
                        | with_reducible refine k_seq ?_
                        | with_reducible refine t_seq ?_
                        | with_reducible refine t_nil ?_
                        | with_reducible refine t_ret ?_
                        | with_reducible refine m_nil ?_
                        | ((with_reducible apply te_val); exact rfl; (intro _ _ _ h; cases h); (focus (simp only [go_sem, hNE, hA, hlt, hTl, htk, hT1, hT2, hO1, hO2, hne, hm3, hm4, HW, hTm, hpn, hnl, hle0, encP, cast0]; first | done | exact rfl)))
                        | ((with_reducible apply me_val); exact rfl; (intro _ _ _ h; cases h); (focus (simp only [go_sem, hNE, hA, hlt, hTl, htk, hT1, hT2, hO1, hO2, hne, hm3, hm4, HW, hTm, hpn, hnl, hle0, encP, cast0]; first | done | exact rfl)))
                        | ((with_reducible apply me_gval); exact rfl; (focus (simp only [go_sem, hNE, hA, hlt, hTl, htk, hT1, hT2, hO1, hO2, hne, hm3, hm4, HW, hTm, hpn, hnl, hle0, encP, cast0]; first | done | exact rfl)); exact rfl; (intro _ _ _ h; cases h); (focus (intro hG; simp only [go_sem, hNE, hA, hlt, hTl, htk, hT1, hT2, hO1, hO2, hne, hm3, hm4, HW, hTm, hpn, hnl, hle0, encP, cast0, hG]; first | done | exact rfl)))
                        | ((with_reducible apply me_gcallS); exact rfl; (focus (simp only [go_sem, hNE, hA, hlt, hTl, htk, hT1, hT2, hO1, hO2, hne, hm3, hm4, HW, hTm, hpn, hnl, hle0, encP, cast0]; first | done | exact rfl)); (focus (simp only [go_sem, hNE, hA, hlt, hTl, htk, hT1, hT2, hO1, hO2, hne, hm3, hm4, HW, hTm, hpn, hnl, hle0, encP, cast0]; first | done | exact rfl)); (focus (intro hG; simp only [go_sem, hNE, hA, hlt, hTl, htk, hT1, hT2, hO1, hO2, hne, hm3, hm4, HW, hTm, hpn, hnl, hle0, encP, cast0, hG]; first | done | exact rfl)); (focus (simp only [go_sem, hNE, hA, hlt, hTl, htk, hT1, hT2, hO1, hO2, hne, hm3, hm4, HW, hTm, hpn, hnl, hle0, encP, cast0]; done)); (intro hG; first | exact p17 c hc1 | exact p47b _ _ _)))
                    (first | apply pend rs11 | apply pendN rs11); (focus (simp only [go_sem, e0_0, e0_1, e0_2, e0_9, e0_13, e0_14, h0_15, e4_0, e4_1, e4_2, e4_6, e4_13, h4_21]; first | done | exact rfl)); (focus (simp only [go_sem, e0_0, e0_1, e0_2, e0_9, e0_13, e0_14, h0_15, e4_0, e4_1, e4_2, e4_6, e4_13, h4_21]; first | done | exact rfl))
          | cons v2 w =>
            have hre : resErr (v :: v2 :: w, 0) = 30 := by
              simp only [resErr, List.length_cons]
              rw [decide_eq_true (by omega), decide_eq_false (by omega)]; rfl
            rw [if_neg (by rw [hre]; decide), hre] at q18
            -- two procedures that the call fits have a common call
            have h2 : ∃ z, pairF (fun a b => (commonF a b).isSome) l = some z := by
              cases h2 : pairF (fun a b => (commonF a b).isSome) l with
              | some z => exact ⟨z, rfl⟩
              | none =>
                exfalso
                have hnd := cand_nodup (c := c) l 0
                rw [hW, List.nodup_cons] at hnd
                obtain ⟨q1, p1, a1, a2, a3⟩ := (cand_mem l 0 v).1 (by rw [hW]; exact List.mem_cons_self)
                obtain ⟨q2, p2, b1, b2, b3⟩ := (cand_mem l 0 v2).1 (by rw [hW]; exact List.mem_cons_of_mem _ List.mem_cons_self)
                have hne : q1 ≠ q2 := fun e => hnd.1 (by rw [a3, e, ← b3]; exact List.mem_cons_self)
                have v1 := hall p1 (List.mem_of_getElem? a1)
                have v2' := hall p2 (List.mem_of_getElem? b1)
                rcases Nat.lt_or_ge q1 q2 with hlt | hge
                · have := pair_none h2 hlt a1 b1
                  rw [common_of_both v1 v2' hk a2 b2] at this; cases this
                · have := pair_none h2 (show q2 < q1 by omega) b1 a1
                  rw [common_of_both v2' v1 hk b2 a2] at this; cases this
            obtain ⟨y, h2⟩ := h2
            rw [ambiguous, firstPair, if_pos hD, h2] at q44
            cases h1 : pairF (fun a b => !(distF a b).isSome) l with
            | none => rw [hnc h1] at h2; cases h2
            | some z =>
              rw [h1] at q43
              (refine ppure_of_T ok11 (by simp only [List.length_cons, List.length_nil]; decide) ?_; refine t_seq ?_)
              (have hNE := True.intro; have hC := True.intro; repeat' first
                  | with_reducible refine k_seq ?_
                  | with_reducible refine t_seq ?_
                  | with_reducible refine t_reg ?_
                  | with_reducible refine t_nil ?_
                  | with_reducible refine t_skip ?_
                  | with_reducible refine t_block ?_
                  | ((with_reducible apply te_val); exact rfl; (intro _ _ _ h; cases h); (focus (simp only [go_sem, hNE, h6', hD, hk, cast0]; first | done | exact rfl)))
                  | ((with_reducible apply te_callS); (focus (simp only [go_sem, hNE, h6', hD, hk, cast0]; first | done | exact rfl)); (focus (simp only [go_sem, hNE, h6', hD, hk, cast0]; first | done | exact rfl)); (focus (simp only [go_sem, hNE, h6', hD, hk, cast0]; first | done | exact rfl)); (first | exact p46 | exact q16 | exact q43 | exact q44 | exact q17 | exact q18 | exact q19 | exact q20))
                  | ((with_reducible apply te_gval); exact rfl; (focus (simp only [go_sem, hNE, h6', hD, hk, cast0]; first | done | exact rfl)); exact rfl; (intro _ _ _ h; cases h); (focus (intro hG; simp only [go_sem, hNE, h6', hD, hk, cast0, hG]; first | done | exact rfl)))
                  | ((with_reducible apply te_gcallS); exact rfl; (focus (simp only [go_sem, hNE, h6', hD, hk, cast0]; first | done | exact rfl)); (focus (simp only [go_sem, hNE, h6', hD, hk, cast0]; first | done | exact rfl)); (focus (intro hG; simp only [go_sem, hNE, h6', hD, hk, cast0, hG]; first | done | exact rfl)); (focus (simp only [go_sem, hNE, h6', hD, hk, cast0]; done)); (intro hG; first | exact p46 | exact q16 | exact q43 | exact q44 | exact q17 | exact q18 | exact q19 | exact q20))
                  | ((with_reducible apply t_cond); (focus (simp only [go_sem, hNE, h6', hD, hk, cast0]; first | done | exact rfl)))
                  | (with_reducible intro hc; with_reducible exact Bool.noConfusion hc)
                  | (with_reducible intro hc; have hC := And.intro hC hc))
              refine t_loopE (fun (k0 : Nat) (E0 : Nat → PV) (H0 : Hp) => ∃ (i : Nat), i + k0 = l.length ∧ E0 15 = .int .i64 i) (l.length) ⟨0, (by first | omega | rfl | assumption | (simp only [go_sem, cast0]; first | done | rfl | assumption | omega)), (by simp only [go_sem, cast0]; first | done | rfl)⟩ ?_
              rintro k0 E0 H0 hfr0 ⟨i, hk, h0_15⟩
              have e0_0 := hfr0 0 rfl; have e0_1 := hfr0 1 rfl; have e0_2 := hfr0 2 rfl; have e0_9 := hfr0 9 rfl; have e0_13 := hfr0 13 rfl; have e0_14 := hfr0 14 rfl
              simp only [go_sem, cast0] at e0_0 e0_1 e0_2 e0_9 e0_13 e0_14
              clear hfr0
              (have hA := And.intro e0_0 (And.intro e0_1 (And.intro e0_2 (And.intro e0_9 (And.intro e0_13 (And.intro e0_14 (h0_15)))))); have hNE := True.intro; have hC := True.intro; repeat' first
                  | with_reducible refine k_seq ?_
                  | with_reducible refine t_seq ?_
                  | with_reducible refine t_reg ?_
                  | with_reducible refine t_nil ?_
                  | with_reducible refine t_ret ?_
                  | with_reducible refine t_exit ?_
                  | with_reducible refine k_seq_exit ?_
                  | with_reducible refine k_seq_ret ?_
                  | with_reducible refine k_blk_exit ?_
                  | with_reducible refine k_invE_exit ?_
                  | ((with_reducible apply te_val); exact rfl; (intro _ _ _ h; cases h); (focus (simp only [go_sem, hNE, hA, cast0]; first | done | exact rfl)))
                  | ((with_reducible apply te_gval); exact rfl; (focus (simp only [go_sem, hNE, hA, cast0]; first | done | exact rfl)); exact rfl; (intro _ _ _ h; cases h); (focus (intro hG; simp only [go_sem, hNE, hA, cast0, hG]; first | done | exact rfl)))
                  | ((with_reducible apply t_cond); (focus (simp only [go_sem, hNE, hA, cast0]; first | done | exact rfl)))
                  | (with_reducible intro hc; with_reducible exact Bool.noConfusion hc)
                  | (with_reducible intro hc; have hC := And.intro hC hc))
              (first | apply pend rs11 | apply pendN rs11); (focus (simp only [go_sem, e0_0, e0_1, e0_2, e0_9, e0_13, e0_14, h0_15]; first | done | exact rfl)); (focus (simp only [go_sem, e0_0, e0_1, e0_2, e0_9, e0_13, e0_14, h0_15]; first | done | exact rfl))
      · have q19 := p19n l hl1
        have q20 := p20n c
        (refine ppure_of_T ok11 (by simp only [List.length_cons, List.length_nil]; decide) ?_; refine t_seq ?_)
        (have hNE := True.intro; have hC := True.intro; repeat' first
            | with_reducible refine k_seq ?_
            | with_reducible refine t_seq ?_
            | with_reducible refine t_reg ?_
            | with_reducible refine t_nil ?_
            | with_reducible refine t_skip ?_
            | with_reducible refine t_ret ?_
            | with_reducible refine k_seq_ret ?_
            | ((with_reducible apply te_val); exact rfl; (intro _ _ _ h; cases h); (focus (simp only [go_sem, hNE, h6', hD, hk, cast0]; first | done | exact rfl)))
            | ((with_reducible apply te_callS); (focus (simp only [go_sem, hNE, h6', hD, hk, cast0]; first | done | exact rfl)); (focus (simp only [go_sem, hNE, h6', hD, hk, cast0]; first | done | exact rfl)); (focus (simp only [go_sem, hNE, h6', hD, hk, cast0]; first | done | exact rfl)); (first | exact p46 | exact q19 | exact q20))
            | ((with_reducible apply te_gval); exact rfl; (focus (simp only [go_sem, hNE, h6', hD, hk, cast0]; first | done | exact rfl)); exact rfl; (intro _ _ _ h; cases h); (focus (intro hG; simp only [go_sem, hNE, h6', hD, hk, cast0, hG]; first | done | exact rfl)))
            | ((with_reducible apply te_gcallS); exact rfl; (focus (simp only [go_sem, hNE, h6', hD, hk, cast0]; first | done | exact rfl)); (focus (simp only [go_sem, hNE, h6', hD, hk, cast0]; first | done | exact rfl)); (focus (intro hG; simp only [go_sem, hNE, h6', hD, hk, cast0, hG]; first | done | exact rfl)); (focus (simp only [go_sem, hNE, h6', hD, hk, cast0]; done)); (intro hG; first | exact p46 | exact q19 | exact q20))
            | ((with_reducible apply t_cond); (focus (simp only [go_sem, hNE, h6', hD, hk, cast0]; first | done | exact rfl)))
            | (with_reducible intro hc; with_reducible exact Bool.noConfusion hc)
            | (with_reducible intro hc; have hC := And.intro hC hc))
        (first | apply pend rs11 | apply pendN rs11); (focus (simp only [go_sem]; first | done | exact rfl)); (focus (simp only [go_sem]; first | done | exact rfl))
    · have q19 := p19n l hl1
      (refine ppure_of_T ok11 (by simp only [List.length_cons, List.length_nil]; decide) ?_; refine t_seq ?_)
      (have hNE := True.intro; have hC := True.intro; repeat' first
          | with_reducible refine k_seq ?_
          | with_reducible refine t_seq ?_
          | with_reducible refine t_reg ?_
          | with_reducible refine t_nil ?_
          | with_reducible refine t_skip ?_
          | with_reducible refine t_ret ?_
          | with_reducible refine k_seq_ret ?_
          | ((with_reducible apply te_val); exact rfl; (intro _ _ _ h; cases h); (focus (simp only [go_sem, hNE, h6', hD, cast0]; first | done | exact rfl)))
          | ((with_reducible apply te_callS); (focus (simp only [go_sem, hNE, h6', hD, cast0]; first | done | exact rfl)); (focus (simp only [go_sem, hNE, h6', hD, cast0]; first | done | exact rfl)); (focus (simp only [go_sem, hNE, h6', hD, cast0]; first | done | exact rfl)); (first | exact p46 | exact q19))
          | ((with_reducible apply te_gval); exact rfl; (focus (simp only [go_sem, hNE, h6', hD, cast0]; first | done | exact rfl)); exact rfl; (intro _ _ _ h; cases h); (focus (intro hG; simp only [go_sem, hNE, h6', hD, cast0, hG]; first | done | exact rfl)))
          | ((with_reducible apply te_gcallS); exact rfl; (focus (simp only [go_sem, hNE, h6', hD, cast0]; first | done | exact rfl)); (focus (simp only [go_sem, hNE, h6', hD, cast0]; first | done | exact rfl)); (focus (intro hG; simp only [go_sem, hNE, h6', hD, cast0, hG]; first | done | exact rfl)); (focus (simp only [go_sem, hNE, h6', hD, cast0]; done)); (intro hG; first | exact p46 | exact q19))
          | ((with_reducible apply te_gno); exact rfl; (focus (simp only [go_sem, hNE, h6', hD, cast0]; first | done | exact rfl)); exact rfl)
          | ((with_reducible apply t_cond); (focus (simp only [go_sem, hNE, h6', hD, cast0]; first | done | exact rfl)))
          | (with_reducible intro hc; with_reducible exact Bool.noConfusion hc)
          | (with_reducible intro hc; have hC := And.intro hC hc))
      (first | apply pend rs11 | apply pendN rs11); (focus (simp only [go_sem]; first | done | exact rfl)); (focus (simp only [go_sem]; first | done | exact rfl))
  · have h6' : ((6 : Int) < (l.length : Int)) = True := eq_true (by omega)
    (refine ppure_of_T ok11 (by simp only [List.length_cons, List.length_nil]; decide) ?_; refine t_seq ?_)
    (have hNE := True.intro; have hC := True.intro; repeat' first
        | with_reducible refine k_seq ?_
        | with_reducible refine t_seq ?_
        | with_reducible refine t_reg ?_
        | with_reducible refine t_nil ?_
        | with_reducible refine t_skip ?_
        | with_reducible refine t_ret ?_
        | with_reducible refine k_seq_ret ?_
        | ((with_reducible apply te_val); exact rfl; (intro _ _ _ h; cases h); (focus (simp only [go_sem, hNE, h6']; first | done | exact rfl)))
        | ((with_reducible apply te_callS); (focus (simp only [go_sem, hNE, h6']; first | done | exact rfl)); (focus (simp only [go_sem, hNE, h6']; first | done | exact rfl)); (focus (simp only [go_sem, hNE, h6']; first | done | exact rfl)); (first | exact p46))
        | ((with_reducible apply te_gval); exact rfl; (focus (simp only [go_sem, hNE, h6']; first | done | exact rfl)); exact rfl; (intro _ _ _ h; cases h); (focus (intro hG; simp only [go_sem, hNE, h6', hG]; first | done | exact rfl)))
        | ((with_reducible apply te_gno); exact rfl; (focus (simp only [go_sem, hNE, h6']; first | done | exact rfl)); exact rfl)
        | ((with_reducible apply t_cond); (focus (simp only [go_sem, hNE, h6']; first | done | exact rfl)))
        | (with_reducible intro hc; with_reducible exact Bool.noConfusion hc)
        | (with_reducible intro hc; have hC := And.intro hC hc))
    (first | apply pend rs11 | apply pendN rs11); (focus (simp only [go_sem]; first | done | exact rfl)); (focus (simp only [go_sem]; first | done | exact rfl))
end Go.Proofs.Ytloecggdboingaa
