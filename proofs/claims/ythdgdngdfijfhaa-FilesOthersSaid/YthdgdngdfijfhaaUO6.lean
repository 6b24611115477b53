/- Part 6 of the proof: what the claim needs of the framework, the contracts of functions, and the laws. No conditions. -/
import Derived.Test.YthdgdngdfijfhaaUO5
import Derived.Test.YthdgdngdfijfhaaRows
namespace Go.Proofs.Ythdgdngdfijfhaa
open Go.RowKit Go.Proofs
set_option linter.unusedVariables false
set_option linter.unusedSimpArgs false
theorem recS_eq {w i : Nat} {s t : List UInt8} (hs : (i + 1) * (w + 4) ≤ s.length) (ht : (i + 1) * (w + 4) ≤ t.length)
    (h : (s.drop (i * (w + 4))).take (w + 4) = (t.drop (i * (w + 4))).take (w + 4)) : recS w s i = recS w t i := by
  rw [recS, recS, if_pos hs, if_pos ht, h]
theorem recS_out {w i : Nat} {s : List UInt8} (hs : ¬ (i + 1) * (w + 4) ≤ s.length) : recS w s i = [] := by rw [recS, if_neg hs]
theorem slot_zero (w n : Nat) : (slotOf w n (List.replicate (w + 4) 0)).1 = [] := by
  rw [slotOf, if_neg]; simp [isSlot]
theorem recS_zeros {w k p i : Nat} {s : List UInt8} (hs : s.length = k * (w + 4)) : recS w (s ++ List.replicate p 0) i = recS w s i := by
  by_cases h1 : i < k
  · have h2 : (i + 1) * (w + 4) ≤ k * (w + 4) := Nat.mul_le_mul_right _ (by omega)
    have h3 : (i + 1) * (w + 4) = i * (w + 4) + (w + 4) := Nat.succ_mul _ _
    refine recS_eq (by simp; omega) (by omega) ?_
    rw [List.drop_append_of_le_length (by omega), List.take_append_of_le_length (by rw [List.length_drop]; omega)]
  · have h2 : k * (w + 4) ≤ i * (w + 4) := Nat.mul_le_mul_right _ (by omega)
    have h3 : (i + 1) * (w + 4) = i * (w + 4) + (w + 4) := Nat.succ_mul _ _
    rw [recS_out (s := s) (by omega)]
    by_cases h4 : (i + 1) * (w + 4) ≤ (s ++ List.replicate p 0).length
    · rw [recS, if_pos h4]
      have h5 : ((s ++ List.replicate p (0 : UInt8)).drop (i * (w + 4))).take (w + 4) = List.replicate (w + 4) 0 := by
        rw [List.drop_append, List.drop_of_length_le (by omega), List.nil_append, List.drop_replicate, List.take_replicate]
        congr 1
        rw [List.length_append, List.length_replicate] at h4
        omega
      rw [h5]; exact slot_zero _ _
    · exact recS_out h4
theorem recS_write {w k j i : Nat} {t C : List UInt8} (ht : t.length = k * (w + 4)) (hj : j ≤ k) (hC : C.length ≤ w + 4) (hi : i ≠ j) :
    recS w (t.take (j * (w + 4)) ++ C ++ t.drop (j * (w + 4) + C.length)) i = recS w t i := by
  have h0 : j * (w + 4) ≤ k * (w + 4) := Nat.mul_le_mul_right _ hj
  have h3 : (i + 1) * (w + 4) = i * (w + 4) + (w + 4) := Nat.succ_mul _ _
  have hl : (t.take (j * (w + 4))).length = j * (w + 4) := by rw [List.length_take]; omega
  rcases Nat.lt_or_ge i j with h1 | h1
  · have h2 : (i + 1) * (w + 4) ≤ j * (w + 4) := Nat.mul_le_mul_right _ (by omega)
    refine recS_eq (by simp only [List.length_append, hl]; omega) (by omega) ?_
    rw [List.append_assoc, List.drop_append_of_le_length (by omega), List.take_append_of_le_length (by rw [List.length_drop]; omega)]
    rw [List.drop_take, List.take_take, Nat.min_eq_left (by omega)]
  · have h2 : (j + 1) * (w + 4) ≤ i * (w + 4) := Nat.mul_le_mul_right _ (by omega)
    have h4 : (j + 1) * (w + 4) = j * (w + 4) + (w + 4) := Nat.succ_mul _ _
    have hll : (t.take (j * (w + 4)) ++ C).length = j * (w + 4) + C.length := by rw [List.length_append, hl]
    have hd : (t.take (j * (w + 4)) ++ C ++ t.drop (j * (w + 4) + C.length)).drop (i * (w + 4)) = t.drop (i * (w + 4)) := by
      rw [List.drop_append, List.drop_of_length_le (by omega), List.nil_append, List.drop_drop, hll]
      congr 1; omega
    have hrl := congrArg List.length hd
    rw [List.length_drop, List.length_drop] at hrl
    by_cases h5 : (i + 1) * (w + 4) ≤ t.length
    · exact recS_eq (by omega) h5 (by rw [hd])
    · rw [recS_out h5, recS_out (by omega)]
end Go.Proofs.Ythdgdngdfijfhaa
namespace Go.Proofs.Ythdgdngdfijfhaa
open Go.RowKit Go.Proofs
set_option linter.unusedVariables false
set_option linter.unusedSimpArgs false
theorem dir_ev {u : Un} {w : Nat} (s : List UInt8) (T j k : Nat) (C : List UInt8) (hs : s.length = k * (w + 4)) (hT : T = j * (w + 4)) (hC : C.length ≤ w + 4) (K part : Nat)
    (hk : partOK ((if s.length < T then [⟨0, (s.length : Nat), List.replicate (T - s.length) 0⟩] else []) ++ [⟨0, (T : Nat), C⟩]) K part)
    (hK : K < ((if s.length < T then [(⟨0, (s.length : Nat), List.replicate (T - s.length) 0⟩ : Ev)] else []) ++ [(⟨0, (T : Nat), C⟩ : Ev)]).length) (i : Nat)
    (hi : K + 1 = ((if s.length < T then [(⟨0, (s.length : Nat), List.replicate (T - s.length) 0⟩ : Ev)] else []) ++ [(⟨0, (T : Nat), C⟩ : Ev)]).length → i ≠ j) :
    recS w (fileAt s ((if s.length < T then [⟨0, (s.length : Nat), List.replicate (T - s.length) 0⟩] else []) ++ [⟨0, (T : Nat), C⟩]) K part) i = recS w s i := by
  have wr : ∀ (t : List UInt8) (k : Nat), t.length = k * (w + 4) → j ≤ k → i ≠ j → recS w (if 0 < part then aftF t ⟨0, (T : Nat), C.take part⟩ else t) i = recS w t i := by
    intro t k ht hjk hij
    by_cases h0 : 0 < part
    · rw [if_pos h0, aft_write, hT]
      exact recS_write ht hjk (by rw [List.length_take]; omega) hij
    · rw [if_neg h0]
  by_cases hlt : s.length < T
  · simp only [if_pos hlt] at hk hK hi ⊢
    simp at hK hi
    rcases (show K = 0 ∨ K = 1 by omega) with rfl | rfl
    · have e0 : fileAt s ([⟨0, (s.length : Nat), List.replicate (T - s.length) 0⟩] ++ [⟨0, (T : Nat), C⟩]) 0 part = s ++ List.replicate (min part (T - s.length)) 0 := by
        show (if 0 < part then aftF s ⟨0, (s.length : Nat), (List.replicate (T - s.length) 0).take part⟩ else s) = _
        by_cases h0 : 0 < part
        · rw [if_pos h0, aft_write, List.take_length, List.drop_of_length_le (by omega), List.append_nil, List.take_replicate]
        · rw [if_neg h0, show part = 0 by omega]; simp
      rw [e0]; exact recS_zeros hs
    · have e0 : aftF s ⟨0, (s.length : Nat), List.replicate (T - s.length) 0⟩ = s ++ List.replicate (T - s.length) 0 := by
        rw [aft_write, List.take_length, List.drop_of_length_le (by omega), List.append_nil]
      show recS w (if 0 < part then aftF (aftF s ⟨0, (s.length : Nat), List.replicate (T - s.length) 0⟩) ⟨0, (T : Nat), C.take part⟩ else aftF s ⟨0, (s.length : Nat), List.replicate (T - s.length) 0⟩) i = _
      rw [e0, wr _ j (by simp; omega) (Nat.le_refl _) (hi rfl)]
      exact recS_zeros hs
  · simp only [if_neg hlt, List.nil_append] at hk hK hi ⊢
    have hK0 : K = 0 := by simpa using hK
    subst hK0
    have hjk : j ≤ k := by
      rcases Nat.lt_or_ge k j with h | h
      · have := Nat.mul_le_mul_right (w + 4) (show k + 1 ≤ j from h)
        have : (k + 1) * (w + 4) = k * (w + 4) + (w + 4) := Nat.succ_mul k (w + 4)
        omega
      · exact h
    exact wr s k hs hjk (hi rfl)
end Go.Proofs.Ythdgdngdfijfhaa
namespace Go.Proofs.Ythdgdngdfijfhaa
open Go.RowKit Go.Proofs
set_option linter.unusedVariables false
set_option linter.unusedSimpArgs false
theorem dir_break (u : Un) (a : Ac) {w : Nat} (h : Vu u) (hac : u.access = 1) (hw : u.width = (w : Int)) (ha : actE a = 0) (K part : Nat) (d : List Ev)
    (hd : (if (doneF u a).2.status = 0 then evF u a (doneF u a).1 else []) = d) (hk : partOK d K part) (hK : K < d.length)
    (i : Nat) (hi : ∀ e, d[K]? = some e → (i : Int) ≠ e.pos / ((w : Int) + 4)) :
    recS w (fileAt (bytesF u) d K part) i = recS w (bytesF u) i := by
  by_cases hst' : ¬ (doneF u a).2.status = 0
  · rw [if_neg hst'] at hd; rw [← hd] at hK; simp at hK
  have hst := Classical.not_not.1 hst'
  rw [if_pos hst] at hd
  by_cases h6 : a.kind = 6
  · have hev : d = [⟨2, 0, []⟩] := by rw [← hd, evF, if_pos h6]
    subst hev
    have hK0 : K = 0 := by simpa using hK
    subst hK0
    have hp0 : part = 0 := by have := hk.2; simpa using this
    subst hp0
    rfl
  by_cases he : bytesF u = bytesF (doneF u a).1
  · rw [evF_same h6 he] at hd; rw [← hd] at hK; simp at hK
  have hl := (open_dir u h hac).2
  rw [show u.width.toNat = w by omega] at hl
  have hev : (if (bytesF u).length < atF u a then [⟨0, ((bytesF u).length : Nat), List.replicate (atF u a - (bytesF u).length) 0⟩] else []) ++
      [⟨0, (atF u a : Nat), ((bytesF (doneF u a).1).take (atF u a + (u.width.toNat + 4))).drop (atF u a)⟩] = d := by
    rw [← hd, evF, if_neg h6, if_neg he, if_neg (show ¬ u.access = 2 by omega), if_pos hac]
  obtain ⟨C, hC⟩ : ∃ C, ((bytesF (doneF u a).1).take (atF u a + (u.width.toNat + 4))).drop (atF u a) = C := ⟨_, rfl⟩
  have hCl : C.length ≤ w + 4 := by rw [← hC, List.length_drop, List.length_take]; omega
  have hT : atF u a = (a.number.toNat - 1) * (w + 4) := by rw [atF, show u.width.toNat = w by omega]
  rw [hC] at hev
  subst hev
  refine dir_ev (u := u) (bytesF u) (atF u a) (a.number.toNat - 1) u.recs.length C hl hT hCl K part hk hK i (fun hK2 hij => ?_)
  have hlast : ((if (bytesF u).length < atF u a then [(⟨0, ((bytesF u).length : Nat), List.replicate (atF u a - (bytesF u).length) 0⟩ : Ev)] else []) ++ [⟨0, (atF u a : Nat), C⟩])[K]? = some ⟨0, (atF u a : Nat), C⟩ := by
    rw [List.getElem?_append_right (by simp at hK2; omega)]
    simp at hK2; simp [hK2]
  have := hi _ hlast
  apply this
  show (i : Int) = ((atF u a : Nat) : Int) / ((w : Int) + 4)
  rw [hT, hij, show ((w : Int) + 4) = ((w + 4 : Nat) : Int) by omega, ← Int.natCast_ediv, Nat.mul_div_cancel _ (by omega)]
theorem done_wid {u : Un} {a : Ac} (h : Vu u) (ha : actE a = 0) : (doneF u a).1.width = u.width := by
  obtain ⟨⟨hk0, hk7⟩, _⟩ := (actE_zero a).1 ha
  rcases done_cases u a h hk0 hk7 with ⟨h1, _⟩ | ⟨_, _, ⟨_, _, h1⟩ | ⟨_, _, _, _, h1⟩ | ⟨_, _, h1⟩ | ⟨_, _, h1⟩⟩ <;> rw [h1]
theorem runL_wid : ∀ (l : List Ac) (u : Un), Vu u → (∀ a ∈ l, actE a = 0) → (runL u l).1.width = u.width
  | [], _, _, _ => rfl
  | a :: l, u, h, ha => by
    rw [runL, runL_wid l _ (done_valid h (ha a List.mem_cons_self)) (fun b hb => ha b (List.mem_cons_of_mem _ hb)), done_wid h (ha a List.mem_cons_self)]
def DirP (u : Un) (l : List Ac) (w K part : Nat) : Prop :=
  ∃ n, n ≤ l.length ∧ ∀ i : Nat, (∀ e, (evsF u l).2.1[K]? = some e → (i : Int) ≠ e.pos / ((w : Int) + 4)) →
    recS w (fileAt (bytesF u) (evsF u l).2.1 K part) i = recS w (bytesF (runL u (l.take n)).1) i
theorem dir_end {u : Un} {l : List Ac} (h : Vu u) (ha : ∀ a ∈ l, actE a = 0) {w part : Nat} (hk : partOK (evsF u l).2.1 (evsF u l).2.1.length part) : DirP u l w (evsF u l).2.1.length part := by
  obtain ⟨_, e2, _, e4⟩ := evto_run l u h ha
  have hp : part = 0 := by have := hk.2; simpa using this
  refine ⟨l.length, Nat.le_refl _, fun i _ => ?_⟩
  rw [fileAt, if_neg (by omega), List.take_length, e2.2, List.take_length]
theorem dir_whole (l : List Ac) (u : Un) (w : Nat) (h : Vu u) (hac : u.access = 1) (hw : u.width = (w : Int)) : ∀ (K part : Nat), (∀ a ∈ l, actE a = 0) → partOK (evsF u l).2.1 K part → DirP u l w K part := by
  obtain ⟨m, rfl⟩ : ∃ m : List Ac, l = m.reverse := ⟨l.reverse, by simp⟩
  induction m with
  | nil =>
    intro K part ha hk
    have h1 := hk.1
    have hK : K = (evsF u []).2.1.length := by simp [evsF] at h1 ⊢; exact h1
    subst hK
    exact dir_end h ha hk
  | cons a m ih =>
    intro K part ha hk
    rw [List.reverse_cons] at ha hk ⊢
    generalize m.reverse = l at ha ih hk ⊢
    have ha1 : ∀ b ∈ l, actE b = 0 := fun b hb => ha b (List.mem_append_left _ hb)
    have haa : actE a = 0 := ha a (List.mem_append_right _ List.mem_cons_self)
    obtain ⟨h1, h2, h3, h4⟩ := evto_run l u h ha1
    have hv := runL_valid l u h ha1
    have hwa : (runL u l).1.access = 1 := by rw [runL_acc l u h ha1, hac]
    have hww : (runL u l).1.width = (w : Int) := by rw [runL_wid l u h ha1, hw]
    obtain ⟨d, hd⟩ : ∃ d, (if (doneF (runL u l).1 a).2.status = 0 then evF (runL u l).1 a (doneF (runL u l).1 a).1 else []) = d := ⟨_, rfl⟩
    have e1 : evsF u (l ++ [a]) = evS (evsF u l) a := by rw [evsF, List.foldl_append]; rfl
    have eE : (evsF u (l ++ [a])).2.1 = (evsF u l).2.1 ++ d := by
      rw [e1, evS, h1, ← hd]
      by_cases hs : (doneF (runL u l).1 a).2.status = 0 <;> simp [hs]
    by_cases hKE : K = (evsF u (l ++ [a])).2.1.length
    · subst hKE; exact dir_end h ha hk
    have hKl : K < ((evsF u l).2.1 ++ d).length := by have := hk.1; rw [eE] at this hKE; omega
    rw [eE] at hk
    have tl : ∀ j, j ≤ l.length → (l ++ [a]).take j = l.take j := fun j hj => List.take_append_of_le_length hj
    by_cases hlt : K < (evsF u l).2.1.length
    · obtain ⟨n, g1, g2⟩ := ih K part ha1 (partOK_left hlt hk)
      refine ⟨n, by rw [List.length_append]; omega, fun i hi => ?_⟩
      rw [eE, List.getElem?_append_left hlt] at hi
      rw [eE, fileAt_left hlt, tl n g1]; exact g2 i hi
    · have hge : (evsF u l).2.1.length ≤ K := by omega
      have hk2 := partOK_right hge hk
      have hK2 : K - (evsF u l).2.1.length < d.length := by rw [List.length_append] at hKl; omega
      refine ⟨l.length, by simp, fun i hi => ?_⟩
      rw [eE, List.getElem?_append_right hge] at hi
      rw [eE, fileAt_right hge, h2.2, tl _ (Nat.le_refl _), List.take_length]
      exact dir_break (runL u l).1 a hv hwa hww haa _ part d hd hk2 hK2 i hi
end Go.Proofs.Ythdgdngdfijfhaa
namespace Go.Proofs.Ythdgdngdfijfhaa
open Go.RowKit Go.Proofs
set_option linter.unusedVariables false
set_option linter.unusedSimpArgs false
theorem slot_wid {w n : Nat} {own : List UInt8} (h : own.length = w + 4) : (slotOf w n own).1.length = if (slotOf w n own).2 = true then w else 0 := by
  unfold slotOf
  split
  · simp [h]
  · rfl
theorem scanL_wid (w : Nat) : ∀ (f n : Nat) (s : List UInt8), ∀ x ∈ scanL w f n s, x.1.length = if x.2 = true then w else 0
  | 0, _, _, x, h => by simp [scanL] at h
  | f + 1, n, s, x, h => by
    rw [scanL] at h
    split at h
    · cases h
    · rename_i hl
      rcases List.mem_cons.1 h with rfl | h
      · exact slot_wid (by rw [List.length_take]; omega)
      · exact scanL_wid w f _ _ x h
theorem trimN_last (R : List (List UInt8 × Bool)) : ∀ m, trimN R m = 0 ∨ (R[trimN R m - 1]?).map (·.2) = some true
  | 0 => .inl rfl
  | m + 1 => by
    rw [trimN]
    split
    · rename_i h; exact .inr h
    · exact trimN_last R m
theorem od_valid (w : Nat) (s : List UInt8) (h1 : 1 ≤ w) (h2 : w ≤ 200) : Vu (odF w s) := by
  have hl := scanL_len w 60 1 s
  have hw := scanL_wid w 60 1 s
  rw [odF]
  generalize scanL w 60 1 s = R at hl hw ⊢
  have ht := trimN_last R R.length
  right; left
  refine ⟨rfl, by simp only; omega, by simp only; omega, by simp; omega, by simp, ?_, ?_, rfl, rfl, rfl⟩
  · intro i a b ha hb
    simp only [List.getElem?_map] at ha hb
    rcases hx : (R.take (trimN R R.length))[i]? with _ | x
    · rw [hx] at ha; cases ha
    · rw [hx] at ha hb
      obtain rfl : x.1 = a := by simpa using ha
      obtain rfl : x.2 = b := by simpa using hb
      have := hw x (List.mem_of_mem_take (List.mem_of_getElem? hx))
      rw [this]; split <;> rfl
  · show ((R.take (trimN R R.length)).map (·.2)).getLast? ≠ some false
    rw [List.getLast?_eq_getElem?, List.length_map, List.getElem?_map, List.getElem?_take, List.length_take]
    rcases ht with h0 | h0
    · rw [h0, if_neg (by omega)]; simp
    · rcases Nat.eq_zero_or_pos (trimN R R.length) with hz | hz
      · rw [hz, if_neg (by omega)]; simp
      · have hb : trimN R R.length - 1 < R.length := by
          rcases hx : R[trimN R R.length - 1]? with _ | x
          · rw [hx] at h0; cases h0
          · exact (List.getElem?_eq_some_iff.1 hx).1
        rw [show min (trimN R R.length) R.length - 1 = trimN R R.length - 1 by omega, if_pos (by omega), h0]; simp
theorem fileAt_len : ∀ (E : List Ev) (s : List UInt8) (K part : Nat), s.length ≤ 20000 → EvV s.length E → partOK E K part → (fileAt s E K part).length ≤ 20000
  | [], s, K, part, hs, _, hk => by
    have h2 : part = 0 := by have := hk.2; simpa using this
    subst h2
    simpa [fileAt, wrF] using hs
  | x :: r, s, 0, part, hs, hv, hk => by
    have h2 := hk.2
    simp only [List.getElem?_cons_zero, Option.map_some, Option.getD_some] at h2
    by_cases h0 : 0 < part
    · have hx : x.kind = 0 := by
        rcases Classical.em (x.kind = 0) with h | h
        · exact h
        · rw [if_neg h] at h2; omega
      rw [if_pos hx] at h2
      obtain ⟨q1, q2, q3⟩ := sizeF_le hv.1
      rw [sizeN, if_pos hx] at q3
      simp only [fileAt, if_pos h0, List.take_zero, List.getElem?_cons_zero, Option.getD_some, wrF, List.foldl_nil, aftF, if_pos hx]
      simp; omega
    · simpa [fileAt, h0, wrF] using hs
  | x :: r, s, K + 1, part, hs, hv, hk => by
    obtain ⟨q1, q2, q3⟩ := sizeF_le hv.1
    have e : fileAt s (x :: r) (K + 1) part = fileAt (aftF s x) r K part := by simp [fileAt, wrF]
    have hl := aft_len q1
    rw [e]
    refine fileAt_len r _ K part (by omega) (by rw [hl, ← q2]; exact hv.2) ⟨?_, ?_⟩
    · have := hk.1; simp at this; omega
    · have := hk.2; simpa using this
def u20 : Un := ⟨1, 20, [], [], [], false, 0⟩
theorem v20 : Vu u20 := by right; left; simp [u20]
theorem by20 : bytesF u20 = [] := by rfl
theorem others_at {l : List Ac} (y : Fy) (ha : ∀ a ∈ l, actE a = 0) (hl : l.length ≤ 60) :
    ∃ n F, n ≤ l.length ∧ failF [] (evsF u20 l).2.1 (atY y (evsF u20 l).2.1) = (F, 0) ∧ F.length ≤ 20000 ∧ openE 1 20 F = 0 ∧ (openF 1 20 F).2 = 0 ∧ (openF 1 20 F).1.1 = odF 20 F ∧
      ∀ i : Nat, i < 60 → (∀ e, (evsF u20 l).2.1[atK y (evsF u20 l).2.1]? = some e → (i : Int) ≠ e.pos / 24) → recF (odF 20 F) (i + 1) = recF (runL u20 (l.take n)).1 (i + 1) := by
  obtain ⟨h1, h2, h3, h4⟩ := evto_run l u20 v20 ha
  rw [by20] at h2
  obtain ⟨q1, q2⟩ := fail_at y h2 (by simp) (by omega)
  obtain ⟨n, g1, g2⟩ := dir_whole l u20 20 v20 rfl rfl _ _ ha q1
  rw [by20] at g2
  have hF := fileAt_len _ [] _ _ (by simp) h2.1 q1
  have hE : openE 1 20 (fileAt [] (evsF u20 l).2.1 (atK y (evsF u20 l).2.1) (atP y (evsF u20 l).2.1)) = 0 := by
    have h2 : largeS (fileAt [] (evsF u20 l).2.1 (atK y (evsF u20 l).2.1) (atP y (evsF u20 l).2.1)) = false := by simp [largeS]; omega
    rw [openE, h2, show accF 1 20 = 0 by decide]; rfl
  refine ⟨n, _, g1, q2, hF, hE, ?_, ?_, fun i hi hne => ?_⟩
  · rw [openF, if_neg (fun h => h hE)]; rfl
  · rw [openF, if_neg (fun h => h hE)]; rfl
  · have hat : ∀ a ∈ l.take n, actE a = 0 := fun a h => ha a (List.mem_of_mem_take h)
    have hv := runL_valid (l.take n) u20 v20 hat
    have hac : (runL u20 (l.take n)).1.access = 1 := by rw [runL_acc _ u20 v20 hat]; rfl
    have hw : (runL u20 (l.take n)).1.width = 20 := by rw [runL_wid _ u20 v20 hat]; rfl
    rw [recF, recF, Nat.add_sub_cancel, rec_od 20 _ i hi, rec_unit hv hac i hi, hw]
    exact g2 i hne
def sqU (l : List (List UInt8)) (i : Nat) : Un := ⟨0, 0, l, [], [], false, i⟩
theorem sq_read {l : List (List UInt8)} {i : Nat} (h : i < l.length) : doneF (sqU l i) ⟨0, 0, []⟩ = (sqU l (i + 1), ⟨0, l[i], 0⟩) := by
  have h2 : ¬ (l.length : Int) < (i : Int) := by omega
  have h3 : ¬ (i : Int) = (l.length : Int) := by omega
  simp [doneF, permF, seqF, sqU, h2, h3, List.getElem?_eq_getElem h]
theorem sq_back {l : List (List UInt8)} {i : Nat} (h : i < l.length) : doneF (sqU l (i + 1)) ⟨2, 0, []⟩ = (sqU l i, stA 0) := by
  have h2 : ¬ (l.length : Int) < (i : Int) + 1 := by omega
  have h3 : ¬ (i : Int) < 0 := by omega
  simp [doneF, permF, seqF, sqU, h2, h3]
theorem sq_end (l : List (List UInt8)) : doneF (sqU l l.length) ⟨0, 0, []⟩ = (sqU l (l.length + 1), stA (-1)) := by
  simp [doneF, permF, seqF, sqU]
theorem sq_behind (l : List (List UInt8)) : doneF (sqU l (l.length + 1)) ⟨0, 0, []⟩ = (sqU l (l.length + 1), stA 1) := by
  have h2 : (l.length : Int) < (l.length : Int) + 1 := by omega
  simp [doneF, permF, seqF, sqU, h2]
theorem sq_rew (l : List (List UInt8)) (i : Nat) : doneF (sqU l i) ⟨3, 0, []⟩ = (sqU l 0, stA 0) := by
  simp [doneF, permF, sqU]
def wrA (s : List UInt8) : Ac := ⟨1, 0, s⟩
theorem wrA_ok {s : List UInt8} (h : s.length ≤ 4000) : actE (wrA s) = 0 := by
  rw [actE_zero]; exact ⟨by simp [wrA], h, .inr rfl⟩
theorem sq_write {l : List (List UInt8)} {s : List UInt8} (h : l.length < 60) (hs : s.length ≤ 200) : (doneF (sqU l l.length) (wrA s)).1 = sqU (l ++ [s]) (l ++ [s]).length := by
  have h2 : ¬ 200 < s.length := by omega
  have h3 : ¬ (l.length : Int) = 60 := by omega
  simp [doneF, permF, seqF, sqU, wrA, h2, h3]
theorem sq_run : ∀ (l xs : List (List UInt8)), xs.length + l.length ≤ 60 → (∀ s ∈ l, s.length ≤ 200) → (runL (sqU xs xs.length) (l.map wrA)).1 = sqU (xs ++ l) (xs ++ l).length
  | [], xs, _, _ => by simp [runL]
  | s :: l, xs, hl, hs => by
    simp only [List.map_cons, runL]
    rw [sq_write (by simp at hl; omega) (hs s List.mem_cons_self), sq_run l _ (by simp at hl ⊢; omega) (fun t ht => hs t (List.mem_cons_of_mem _ ht)), List.append_assoc]
    rfl
end Go.Proofs.Ythdgdngdfijfhaa
namespace Go.Proofs.Ythdgdngdfijfhaa
open Go.RowKit Go.Proofs
set_option linter.unusedVariables false
set_option linter.unusedSimpArgs false
attribute [local irreducible] PPure CallN Tops TopsDm T
theorem ev_pos : ∀ (l : List Ev) (n : Nat), EvV n l → n ≤ 20000 → ∀ x ∈ l, 0 ≤ x.pos ∧ x.pos ≤ 20000
  | [], _, _, _, _, hx => by cases hx
  | y :: l, n, h, hn, x, hx => by
    obtain ⟨h1, h2, h3⟩ := sizeF_le h.1
    rcases List.mem_cons.1 hx with rfl | hx
    · obtain ⟨_, _, g4, g5⟩ := evE_zero h1
      exact ⟨g4, by omega⟩
    · exact ev_pos l _ h.2 (by omega) x hx
attribute [local go_sem] encEv in
set_option maxRecDepth 8192 in
set_option maxHeartbeats 8000000 in
theorem p48 (l : List Ac) (y : Fy) (hy : okFy y) (ha : ∀ a ∈ l, actE a = 0) (hl : l.length ≤ 20) : PPure Try.prog 48 [.list .any (l.map encAc), encFy y] (.bool true) := by
  have h14 := p14 u20 (by decide) (by decide)
  have h25 := p25 l (by omega)
  have h41 := p41 u20 l (by decide) (by decide) (by omega)
  have hz : unitE u20 = 0 := (unitE_zero _).2 v20
  have hz2 : (actsE l).2 = 0 := by rw [actsE, if_neg (by omega)]; exact (actsL_zero l 0).2 ha
  have hrg : eofF u20 l = ((evsF u20 l).2, 0) := by rw [eofF, if_pos (by simp [orE, hz, hz2])]
  rw [hrg] at h41
  obtain ⟨e1, e2, e3, e4⟩ := evto_run l u20 v20 ha
  rw [by20] at e2
  have hb := ev_bytes _ _ e2.1
  have hpos := ev_pos _ _ e2.1 (by simp)
  have h45 := p45 [] (evsF u20 l).2.1 (by simp) (by omega) (fun x hx => by have := hb x hx; omega)
  have h46 := p46 y (evsF u20 l).2.1 hy (by omega) hb
  have h36 := p36 [] (evsF u20 l).2.1 (atY y (evsF u20 l).2.1) (by simp) (by omega) (fun x hx => by have := hb x hx; omega)
  have hc : (chkF [] (evsF u20 l).2.1).2 = 0 := by
    rw [chkF, if_neg (by simp; omega)]
    exact (chkL_zero _ 0 _).2 e2.1
  rw [hc] at h45
  obtain ⟨n, F, hn, f1, f2, f3, f4, f5, hrec⟩ := others_at y ha (by omega)
  have h17 := p17' 1 20 F (by omega)
  have h34 := p34 (evsF u20 l).2.1 (by omega)
  obtain ⟨bd1, bd2, bd3, bd4⟩ := at_bounds y (evsF u20 l).2.1
  have hvod := od_valid 20 F (by omega) (by omega)
  rw [f5, f4] at h17
  rw [f1] at h36
  obtain ⟨v, hv⟩ : ∃ v, odF 20 F = v := ⟨_, rfl⟩
  rw [hv] at h17 hrec hvod
  have hvl := Vu_len hvod
  have h15 := p15 v (by omega) (by omega)
  rw [(unitE_zero _).2 hvod] at h15
  have hR : ∀ m, m ≤ l.length → PPure Try.prog 24 [encU u20, .list .any ((l.take m).map encAc)] (.tup [encU (runL u20 (l.take m)).1, .list .any ((runL u20 (l.take m)).2.map encAn), .int .i64 ((l.take m).length : Int), .int .i64 0]) := by
    intro m hm
    have hat : ∀ a ∈ l.take m, actE a = 0 := fun a h => ha a (List.mem_of_mem_take h)
    have hml : (l.take m).length = m := by rw [List.length_take]; omega
    have h24 := p24 u20 (l.take m) (by decide) (by decide) (by omega)
    have hg : runG u20 (l.take m) = ((runL u20 (l.take m), ((l.take m).length : Int)), 0) := by
      rw [runG, if_pos hz, if_pos]
      rw [actsE, if_neg (by omega)]; exact (actsL_zero _ _).2 hat
    rw [hg] at h24
    exact h24
  obtain ⟨rn, hrn⟩ : ∃ rn : Nat → Un × List An, ∀ m, runL u20 (l.take m) = rn m := ⟨_, fun _ => rfl⟩
  simp only [hrn] at hR hrec
  clear hrn
  simp only [encFl, atY] at h46 h36
  generalize atR y (evsF u20 l).2.1 = A at *
  generalize atK y (evsF u20 l).2.1 = K at *
  generalize atP y (evsF u20 l).2.1 = P at *
  generalize (openF 1 20 F).1.2 = sk at h17
  clear e1 e2 hc hrg f1 f3 f4 f5 hb hz hz2 e4
  generalize (evsF u20 l).2 = ev at *
  by_cases hK : K < ev.1.length
  · obtain ⟨p, hpk⟩ : ∃ p : Nat, ev.1[K].pos = (p : Int) := ⟨ev.1[K].pos.toNat, by have := hpos _ (List.getElem_mem hK); omega⟩
    have hpk2 : p ≤ 20000 := by have := hpos _ (List.getElem_mem hK); omega
    have hq : (p : Int).tdiv 24 = ((p / 24 : Nat) : Int) := rfl
    obtain ⟨q, hq2⟩ : ∃ q, p / 24 = q := ⟨_, rfl⟩
    have hq3 : q ≤ 20000 := by omega
    have hrecL : ∀ m i : Nat, m = n → 1 ≤ i → i ≤ 12 → ¬ (i : Int) = ((q + 1 : Nat) : Int) → recF v i = recF (rn m).1 i := by
      intro m i hm h1 h2 h3
      obtain ⟨j, rfl⟩ : ∃ j, i = j + 1 := ⟨i - 1, by omega⟩
      rw [hm]
      refine hrec j (by omega) (fun e he => ?_)
      rw [List.getElem?_eq_getElem hK] at he
      cases he
      rw [hpk]; omega
    rw [hq2] at hq
    clear hrec hpos
    simp only [encU, encFy, u20, List.map_nil] at h14 h41 h15 h17 hR ⊢
    (refine ppure_of_T ok48 (by simp only [List.length_cons, List.length_nil]; decide) ?_; refine t_seq ?_)
    have hNE := True.intro; have hC := True.intro; have hA := True.intro; have hP := True.intro
    (replace hA := And.intro hpk (hq); replace hP := And.intro h14 (And.intro h25 (And.intro h41 (And.intro h45 (And.intro h46 (And.intro h34 (And.intro h36 (And.intro h17 (And.intro h15 (True.intro))))))))); repeat' first | ((with_reducible apply gt_call); first | refine ce_callS ?_ | refine ce_callO ?_) | ((with_reducible apply gt_alloc); (refine ce_alloc ?_; intro la ha hn1; replace hNE := And.intro hNE hn1)) | ((with_reducible apply gt_box); refine ce_box ?_) | ((with_reducible apply gt_store); refine ce_store ?_) | ((with_reducible apply gt_gcall); first | refine ce_gcallS ?_ | refine ce_gcallO ?_ | refine ce_gcall2 ?_ | refine ce_gno ?_ | refine ce_gskip ?_ | refine ce_gno2 ?_) | ((with_reducible apply gt_g); first | refine ce_gval ?_ | refine ce_gno ?_ | refine ce_gskip ?_ | refine ce_gval2 ?_ | refine ce_gno2 ?_) | ((with_reducible apply gd_call); first | refine de_callS ?_ | refine de_callO ?_) | ((with_reducible apply gd_alloc); (refine de_alloc ?_; intro la ha hn1; replace hNE := And.intro hNE hn1)) | ((with_reducible apply gd_store); first | refine de_store ?_ | refine de_storeZ ?_) | ((with_reducible apply gd_gcall); first | refine de_gcallS ?_ | refine de_gcallO ?_ | refine de_gcall2 ?_ | refine de_gno ?_ | refine de_gskip ?_ | refine de_gno2 ?_) | ((with_reducible apply gd_g); first | refine de_gval ?_ | refine de_gno ?_ | refine de_gskip ?_ | refine de_gval2 ?_ | refine de_gno2 ?_) | ((with_reducible apply gt_cond); first | refine c_cond ?_ ?_ | refine c_condB ?_ ?_) | ((with_reducible apply gt_any); refine ce_val ?_) | ((with_reducible apply gd_any); refine de_val ?_) | ((with_reducible apply gt_drw); first | refine ce_drwA ?_ | refine ce_drwE ?_ | refine ce_drwK ?_ | refine ce_drwZ ?_) | with_reducible first | apply k_seq | apply t_seq | apply t_reg | apply t_nil | apply t_skip | apply t_ret | apply t_exit | apply k_seq_exit | apply k_seq_ret | apply k_blk_exit | refine k_blk_other (by decide) ?_ | apply k_blk_ret | apply k_blk | apply t_block | apply m_nil | (with_reducible intro hc; with_reducible exact Bool.noConfusion hc) | (with_reducible intro hc; replace hC := And.intro hC hc))
    rename_i le ae ne c1 lt at_ nt c2
    obtain ⟨lv, h4⟩ : ∃ l, l = la := ⟨la, rfl⟩
    subst h4
    refine t_loopX (fun (k0 : Nat) (E0 : Nat → PV) (H0 : Hp) => ∃ (m : Nat), m + k0 = n ∧ ((le = lt) = False ∧ (lt = le) = False ∧ (le = lv) = False ∧ (lv = le) = False ∧ (lt = lv) = False ∧ (lv = lt) = False) ∧ (E0 16 = .int .i64 (m : Int)) ∧ H0 = hp [(le, .row true 7 ([.agg [.int .i64 1, .int .i64 20, .list .nil [], .list .nil [], .str [], .bool false, .int .i64 0]])), (lt, .row true 3 ([.agg [.int .i64 A, .int .i64 K, .int .i64 P]])), (lv, .row true 7 ([.agg [.int .i64 v.access, .int .i64 v.width, .list .any (v.recs.map encS), .list .any (v.there.map encB), .str v.bytes, .bool v.ended, .int .i64 v.pos]]))]) (n) ?_ ?_
    intro Ng
    refine ⟨_, _, wkE_id, (by repeat' first | exact rowsok_nil | refine rowsok_cons ?_ ?_ | exact rowok_ghost (by assumption) | exact rowA | ((try simp only [cast0]) <;> exact rowA)), 0, (by first | omega | rfl | assumption | (first | exact lv_eq | ((try simp only [cast0]) <;> exact lv_eq) | (simp (maxDischargeDepth := 8) only [go_sem, hNE, hA, cast0, List.length_append, List.length_cons, List.length_nil, Nat.zero_add]; first | done | rfl))), (by (repeat' apply And.intro) <;> exact lv_eq), (by (repeat' apply And.intro) <;> first | exact lv_eq | ((try simp only [cast0]) <;> exact lv_eq) | (simp (maxDischargeDepth := 8) only [go_sem, hNE, hA, cast0, List.length_append, List.length_cons, List.length_nil, Nat.zero_add]; first | done | rfl)), rfl⟩
    rintro k0 E0 H0 hfr0 ⟨m, hm, ⟨d0_0, d0_1, d0_2, d0_3, d0_4, d0_5⟩, h0_16, rfl⟩
    have e0_0 := hfr0 0 rfl; have e0_5 := hfr0 5 rfl; have e0_12 := hfr0 12 rfl; have e0_15 := hfr0 15 rfl
    simp (maxDischargeDepth := 8) only [go_sem, cast0, hNE] at e0_0 e0_5 e0_12 e0_15
    clear hfr0
    have d0 := And.intro d0_0 (And.intro d0_1 (And.intro d0_2 (And.intro d0_3 (And.intro d0_4 (d0_5)))))
    have hml : (l.take m).length = m := by rw [List.length_take]; omega
    have h25n := p25 (l.take m) (by omega)
    have h24 := hR m (by omega)
    have hlast := hrecL m
    generalize rn m = R at h24 hlast
    (replace hA := And.intro e0_0 (And.intro e0_5 (And.intro e0_12 (And.intro e0_15 (And.intro h0_16 (d0))))); replace hP := And.intro h14 (And.intro h25n (And.intro h24 (True.intro))); repeat' first | ((with_reducible apply gt_call); first | refine ce_callS ?_ | refine ce_callO ?_) | ((with_reducible apply gt_alloc); (refine ce_alloc ?_; intro la ha hn1; replace hNE := And.intro hNE hn1)) | ((with_reducible apply gt_box); refine ce_box ?_) | ((with_reducible apply gt_store); refine ce_store ?_) | ((with_reducible apply gt_gcall); first | refine ce_gcallS ?_ | refine ce_gcallO ?_ | refine ce_gcall2 ?_ | refine ce_gno ?_ | refine ce_gskip ?_ | refine ce_gno2 ?_) | ((with_reducible apply gt_g); first | refine ce_gval ?_ | refine ce_gno ?_ | refine ce_gskip ?_ | refine ce_gval2 ?_ | refine ce_gno2 ?_) | ((with_reducible apply gd_call); first | refine de_callS ?_ | refine de_callO ?_) | ((with_reducible apply gd_alloc); (refine de_alloc ?_; intro la ha hn1; replace hNE := And.intro hNE hn1)) | ((with_reducible apply gd_store); first | refine de_store ?_ | refine de_storeZ ?_) | ((with_reducible apply gd_gcall); first | refine de_gcallS ?_ | refine de_gcallO ?_ | refine de_gcall2 ?_ | refine de_gno ?_ | refine de_gskip ?_ | refine de_gno2 ?_) | ((with_reducible apply gd_g); first | refine de_gval ?_ | refine de_gno ?_ | refine de_gskip ?_ | refine de_gval2 ?_ | refine de_gno2 ?_) | ((with_reducible apply gt_cond); first | refine c_cond ?_ ?_ | refine c_condB ?_ ?_) | ((with_reducible apply gt_any); refine ce_val ?_) | ((with_reducible apply gd_any); refine de_val ?_) | ((with_reducible apply gt_drw); first | refine ce_drwA ?_ | refine ce_drwE ?_ | refine ce_drwK ?_ | refine ce_drwZ ?_) | with_reducible first | apply k_seq | apply t_seq | apply t_reg | apply t_nil | apply t_skip | apply t_ret | apply t_exit | apply k_seq_exit | apply k_seq_ret | apply k_blk_exit | refine k_blk_other (by decide) ?_ | apply k_blk_ret | apply k_blk | apply k_invX_ret | apply k_invX_exit | apply t_block | apply m_nil | (with_reducible intro hc; with_reducible exact Bool.noConfusion hc) | (with_reducible intro hc; replace hC := And.intro hC hc))
    obtain ⟨lr, h5⟩ : ∃ l, l = la := ⟨la, rfl⟩
    subst h5
    refine t_loopX (fun (k2 : Nat) (E2 : Nat → PV) (H2 : Hp) => ∃ (s : Bool) (i : Nat), i + k2 = 13 ∧ 1 ≤ i ∧ (m = n → s = true) ∧ ((le = lt) = False ∧ (lt = le) = False ∧ (le = lv) = False ∧ (lv = le) = False ∧ (lt = lv) = False ∧ (lv = lt) = False ∧ (le = lr) = False ∧ (lr = le) = False ∧ (lt = lr) = False ∧ (lr = lt) = False ∧ (lv = lr) = False ∧ (lr = lv) = False) ∧ (E2 21 = .bool s ∧ E2 22 = .int .i64 (i : Int)) ∧ H2 = hp [(le, .row true 7 ([.agg [.int .i64 1, .int .i64 20, .list .nil [], .list .nil [], .str [], .bool false, .int .i64 0]])), (lt, .row true 3 ([.agg [.int .i64 A, .int .i64 K, .int .i64 P]])), (lv, .row true 7 ([.agg [.int .i64 v.access, .int .i64 v.width, .list .any (v.recs.map encS), .list .any (v.there.map encB), .str v.bytes, .bool v.ended, .int .i64 v.pos]])), (lr, .row true 7 ([.agg [.int .i64 R.1.access, .int .i64 R.1.width, .list .any (R.1.recs.map encS), .list .any (R.1.there.map encB), .str R.1.bytes, .bool R.1.ended, .int .i64 R.1.pos]]))]) (12) ?_ ?_
    intro Ng
    replace hA := And.intro hA (And.intro e0_0 (And.intro e0_5 (And.intro e0_12 (And.intro e0_15 (And.intro h0_16 (d0))))))
    refine ⟨_, _, wkE_id, (by repeat' first | exact rowsok_nil | refine rowsok_cons ?_ ?_ | exact rowok_ghost (by assumption) | exact rowA | ((try simp only [cast1]) <;> exact rowA)), true, 1, (by first | omega | rfl | assumption | (first | exact lv_eq | ((try simp only [cast1]) <;> exact lv_eq) | (simp (maxDischargeDepth := 8) only [go_sem, hNE, hA, cast1, List.length_append, List.length_cons, List.length_nil, Nat.zero_add]; first | done | rfl))), (by first | omega | rfl | assumption | (first | exact lv_eq | ((try simp only [cast1]) <;> exact lv_eq) | (simp (maxDischargeDepth := 8) only [go_sem, hNE, hA, cast1, List.length_append, List.length_cons, List.length_nil, Nat.zero_add]; first | done | rfl))), ?_, (by (repeat' apply And.intro) <;> exact lv_eq), (by (repeat' apply And.intro) <;> first | exact lv_eq | ((try simp only [cast1]) <;> exact lv_eq) | (simp (maxDischargeDepth := 8) only [go_sem, hNE, hA, cast1, List.length_append, List.length_cons, List.length_nil, Nat.zero_add]; first | done | rfl)), rfl⟩
    · intro _; rfl
    rintro k2 E2 H2 hfr2 ⟨s, i, hi, hi1, hs, ⟨d2_0, d2_1, d2_2, d2_3, d2_4, d2_5, d2_6, d2_7, d2_8, d2_9, d2_10, d2_11⟩, ⟨h2_21, h2_22⟩, rfl⟩
    have e2_0 := hfr2 0 rfl; have e2_4 := hfr2 4 rfl; have e2_5 := hfr2 5 rfl; have e2_12 := hfr2 12 rfl; have e2_15 := hfr2 15 rfl; have e2_16 := hfr2 16 rfl; have e2_17 := hfr2 17 rfl
    simp (maxDischargeDepth := 8) only [go_sem, e0_0, e0_5, e0_12, e0_15, h0_16, d0, cast1, hNE] at e2_0 e2_4 e2_5 e2_12 e2_15 e2_16 e2_17
    clear hfr2
    have d2 := And.intro d2_0 (And.intro d2_1 (And.intro d2_2 (And.intro d2_3 (And.intro d2_4 (And.intro d2_5 (And.intro d2_6 (And.intro d2_7 (And.intro d2_8 (And.intro d2_9 (And.intro d2_10 (d2_11)))))))))))
    by_cases hi13 : i ≤ 12
    · have h84v := p84 v i hi1 (by omega)
      have h84r := p84 R.1 i hi1 (by omega)
      simp only [encU] at h84v h84r
      have hl2 := hlast i
      generalize recF v i = ra at h84v hl2
      generalize recF R.1 i = rb at h84r hl2
      (replace hA := And.intro e0_0 (And.intro e0_5 (And.intro e0_12 (And.intro e0_15 (And.intro h0_16 (And.intro d0 (And.intro e2_0 (And.intro e2_4 (And.intro e2_5 (And.intro e2_12 (And.intro e2_15 (And.intro e2_16 (And.intro e2_17 (And.intro h2_21 (And.intro h2_22 (d2))))))))))))))); replace hP := And.intro h84v (And.intro h84r (True.intro)); repeat' first | ((with_reducible apply gt_call); first | refine ce_callS ?_ | refine ce_callO ?_) | ((with_reducible apply gt_alloc); (refine ce_alloc ?_; intro la ha hn1; replace hNE := And.intro hNE hn1)) | ((with_reducible apply gt_box); refine ce_box ?_) | ((with_reducible apply gt_store); refine ce_store ?_) | ((with_reducible apply gt_gcall); first | refine ce_gcallS ?_ | refine ce_gcallO ?_ | refine ce_gcall2 ?_ | refine ce_gno ?_ | refine ce_gskip ?_ | refine ce_gno2 ?_) | ((with_reducible apply gt_g); first | refine ce_gval ?_ | refine ce_gno ?_ | refine ce_gskip ?_ | refine ce_gval2 ?_ | refine ce_gno2 ?_) | ((with_reducible apply gd_call); first | refine de_callS ?_ | refine de_callO ?_) | ((with_reducible apply gd_alloc); (refine de_alloc ?_; intro la ha hn1; replace hNE := And.intro hNE hn1)) | ((with_reducible apply gd_store); first | refine de_store ?_ | refine de_storeZ ?_) | ((with_reducible apply gd_gcall); first | refine de_gcallS ?_ | refine de_gcallO ?_ | refine de_gcall2 ?_ | refine de_gno ?_ | refine de_gskip ?_ | refine de_gno2 ?_) | ((with_reducible apply gd_g); first | refine de_gval ?_ | refine de_gno ?_ | refine de_gskip ?_ | refine de_gval2 ?_ | refine de_gno2 ?_) | ((with_reducible apply gt_cond); first | refine c_cond ?_ ?_ | refine c_condB ?_ ?_) | ((with_reducible apply gt_any); refine ce_val ?_) | ((with_reducible apply gd_any); refine de_val ?_) | ((with_reducible apply gt_drw); first | refine ce_drwA ?_ | refine ce_drwE ?_ | refine ce_drwK ?_ | refine ce_drwZ ?_) | with_reducible first | apply k_seq | apply t_seq | apply t_reg | apply t_nil | apply t_skip | apply t_ret | apply t_exit | apply k_seq_exit | apply k_seq_ret | apply k_blk_exit | refine k_blk_other (by decide) ?_ | apply k_blk_ret | apply k_blk | apply k_invX_ret | apply k_invX_exit | apply t_block | apply m_nil | (with_reducible intro hc; with_reducible exact Bool.noConfusion hc) | (with_reducible intro hc; replace hC := And.intro hC hc))
      refine k_invX (k2 - 1) (by omega) ?_
      intro Ng
      replace hA := And.intro hA (And.intro e0_0 (And.intro e0_5 (And.intro e0_12 (And.intro e0_15 (And.intro h0_16 (And.intro d0 (And.intro e2_0 (And.intro e2_4 (And.intro e2_5 (And.intro e2_12 (And.intro e2_15 (And.intro e2_16 (And.intro e2_17 (And.intro h2_21 (And.intro h2_22 (d2))))))))))))))))
      refine ⟨_, _, wkE_id, (by repeat' first | exact rowsok_nil | refine rowsok_cons ?_ ?_ | exact rowok_ghost (by assumption) | exact rowA), decide (s = true ∧ ((i : Int) = ((q + 1 : Nat) : Int) ∨ ra = rb)), i + 1, (by first | omega | (simp only [List.length_append, List.length_cons, List.length_nil, List.length_drop, List.length_take, List.length_map]; omega)), (by first | omega | (simp only [List.length_append, List.length_cons, List.length_nil, List.length_drop, List.length_take, List.length_map]; omega)), ?_, (by (repeat' apply And.intro) <;> exact lv_eq), (by (repeat' apply And.intro) <;> exact lv_eq), rfl⟩
      · intro h; have := hl2 h hi1 (by omega); by_cases hio : (i : Int) = ((q + 1 : Nat) : Int) <;> simp_all
    · cases s with
      | false =>
        have hmn : ¬ m = n := fun h => absurd (hs h) (by simp)
        (replace hA := And.intro e0_0 (And.intro e0_5 (And.intro e0_12 (And.intro e0_15 (And.intro h0_16 (And.intro d0 (And.intro e2_0 (And.intro e2_4 (And.intro e2_5 (And.intro e2_12 (And.intro e2_15 (And.intro e2_16 (And.intro e2_17 (And.intro h2_21 (And.intro h2_22 (d2))))))))))))))); replace hP := True.intro; repeat' first | ((with_reducible apply gt_call); first | refine ce_callS ?_ | refine ce_callO ?_) | ((with_reducible apply gt_alloc); (refine ce_alloc ?_; intro la ha hn1; replace hNE := And.intro hNE hn1)) | ((with_reducible apply gt_box); refine ce_box ?_) | ((with_reducible apply gt_store); refine ce_store ?_) | ((with_reducible apply gt_gcall); first | refine ce_gcallS ?_ | refine ce_gcallO ?_ | refine ce_gcall2 ?_ | refine ce_gno ?_ | refine ce_gskip ?_ | refine ce_gno2 ?_) | ((with_reducible apply gt_g); first | refine ce_gval ?_ | refine ce_gno ?_ | refine ce_gskip ?_ | refine ce_gval2 ?_ | refine ce_gno2 ?_) | ((with_reducible apply gd_call); first | refine de_callS ?_ | refine de_callO ?_) | ((with_reducible apply gd_alloc); (refine de_alloc ?_; intro la ha hn1; replace hNE := And.intro hNE hn1)) | ((with_reducible apply gd_store); first | refine de_store ?_ | refine de_storeZ ?_) | ((with_reducible apply gd_gcall); first | refine de_gcallS ?_ | refine de_gcallO ?_ | refine de_gcall2 ?_ | refine de_gno ?_ | refine de_gskip ?_ | refine de_gno2 ?_) | ((with_reducible apply gd_g); first | refine de_gval ?_ | refine de_gno ?_ | refine de_gskip ?_ | refine de_gval2 ?_ | refine de_gno2 ?_) | ((with_reducible apply gt_cond); first | refine c_cond ?_ ?_ | refine c_condB ?_ ?_) | ((with_reducible apply gt_any); refine ce_val ?_) | ((with_reducible apply gd_any); refine de_val ?_) | ((with_reducible apply gt_drw); first | refine ce_drwA ?_ | refine ce_drwE ?_ | refine ce_drwK ?_ | refine ce_drwZ ?_) | with_reducible first | apply k_seq | apply t_seq | apply t_reg | apply t_nil | apply t_skip | apply t_ret | apply t_exit | apply k_seq_exit | apply k_seq_ret | apply k_blk_exit | refine k_blk_other (by decide) ?_ | apply k_blk_ret | apply k_blk | apply k_invX_ret | apply k_invX_exit | apply t_block | apply m_nil | (with_reducible intro hc; with_reducible exact Bool.noConfusion hc) | (with_reducible intro hc; replace hC := And.intro hC hc))
        refine k_invX (k0 - 1) (by omega) ?_
        intro Ng
        replace hA := And.intro hA (And.intro e0_0 (And.intro e0_5 (And.intro e0_12 (And.intro e0_15 (And.intro h0_16 (And.intro d0 (And.intro e2_0 (And.intro e2_4 (And.intro e2_5 (And.intro e2_12 (And.intro e2_15 (And.intro e2_16 (And.intro e2_17 (And.intro h2_21 (And.intro h2_22 (d2))))))))))))))))
        refine ⟨_, _, wkE_id, (by repeat' first | exact rowsok_nil | refine rowsok_cons ?_ ?_ | exact rowok_ghost (by assumption) | exact rowA), m + 1, (by first | omega | (simp only [List.length_append, List.length_cons, List.length_nil, List.length_drop, List.length_take, List.length_map]; omega)), (by (repeat' apply And.intro) <;> exact lv_eq), (by (repeat' apply And.intro) <;> exact lv_eq), rfl⟩
      | true =>
        (replace hA := And.intro e0_0 (And.intro e0_5 (And.intro e0_12 (And.intro e0_15 (And.intro h0_16 (And.intro d0 (And.intro e2_0 (And.intro e2_4 (And.intro e2_5 (And.intro e2_12 (And.intro e2_15 (And.intro e2_16 (And.intro e2_17 (And.intro h2_21 (And.intro h2_22 (d2))))))))))))))); replace hP := True.intro; repeat' first | ((with_reducible apply gt_call); first | refine ce_callS ?_ | refine ce_callO ?_) | ((with_reducible apply gt_alloc); (refine ce_alloc ?_; intro la ha hn1; replace hNE := And.intro hNE hn1)) | ((with_reducible apply gt_box); refine ce_box ?_) | ((with_reducible apply gt_store); refine ce_store ?_) | ((with_reducible apply gt_gcall); first | refine ce_gcallS ?_ | refine ce_gcallO ?_ | refine ce_gcall2 ?_ | refine ce_gno ?_ | refine ce_gskip ?_ | refine ce_gno2 ?_) | ((with_reducible apply gt_g); first | refine ce_gval ?_ | refine ce_gno ?_ | refine ce_gskip ?_ | refine ce_gval2 ?_ | refine ce_gno2 ?_) | ((with_reducible apply gd_call); first | refine de_callS ?_ | refine de_callO ?_) | ((with_reducible apply gd_alloc); (refine de_alloc ?_; intro la ha hn1; replace hNE := And.intro hNE hn1)) | ((with_reducible apply gd_store); first | refine de_store ?_ | refine de_storeZ ?_) | ((with_reducible apply gd_gcall); first | refine de_gcallS ?_ | refine de_gcallO ?_ | refine de_gcall2 ?_ | refine de_gno ?_ | refine de_gskip ?_ | refine de_gno2 ?_) | ((with_reducible apply gd_g); first | refine de_gval ?_ | refine de_gno ?_ | refine de_gskip ?_ | refine de_gval2 ?_ | refine de_gno2 ?_) | ((with_reducible apply gt_cond); first | refine c_cond ?_ ?_ | refine c_condB ?_ ?_) | ((with_reducible apply gt_any); refine ce_val ?_) | ((with_reducible apply gd_any); refine de_val ?_) | ((with_reducible apply gt_drw); first | refine ce_drwA ?_ | refine ce_drwE ?_ | refine ce_drwK ?_ | refine ce_drwZ ?_) | with_reducible first | apply k_seq | apply t_seq | apply t_reg | apply t_nil | apply t_skip | apply t_ret | apply t_exit | apply k_seq_exit | apply k_seq_ret | apply k_blk_exit | refine k_blk_other (by decide) ?_ | apply k_blk_ret | apply k_blk | apply k_invX_ret | apply k_invX_exit | apply t_block | apply m_nil | (with_reducible intro hc; with_reducible exact Bool.noConfusion hc) | (with_reducible intro hc; replace hC := And.intro hC hc))
        all_goals ((first | refine cpendE rs48 ?_ | refine cpendNE rs48 ?_); (exact fin_eq))
  · have hrecL : ∀ m i : Nat, m = n → 1 ≤ i → i ≤ 12 → ¬ (i : Int) = 0 → recF v i = recF (rn m).1 i := by
      intro m i hm h1 h2 h3
      obtain ⟨j, rfl⟩ : ∃ j, i = j + 1 := ⟨i - 1, by omega⟩
      rw [hm]
      refine hrec j (by omega) (fun e he => ?_)
      rw [List.getElem?_eq_none (by omega)] at he
      cases he
    clear hrec hpos
    simp only [encU, encFy, u20, List.map_nil] at h14 h41 h15 h17 hR ⊢
    (refine ppure_of_T ok48 (by simp only [List.length_cons, List.length_nil]; decide) ?_; refine t_seq ?_)
    have hNE := True.intro; have hC := True.intro; have hA := True.intro; have hP := True.intro
    (replace hA := True.intro; replace hP := And.intro h14 (And.intro h25 (And.intro h41 (And.intro h45 (And.intro h46 (And.intro h34 (And.intro h36 (And.intro h17 (And.intro h15 (True.intro))))))))); repeat' first | ((with_reducible apply gt_call); first | refine ce_callS ?_ | refine ce_callO ?_) | ((with_reducible apply gt_alloc); (refine ce_alloc ?_; intro la ha hn1; replace hNE := And.intro hNE hn1)) | ((with_reducible apply gt_box); refine ce_box ?_) | ((with_reducible apply gt_store); refine ce_store ?_) | ((with_reducible apply gt_gcall); first | refine ce_gcallS ?_ | refine ce_gcallO ?_ | refine ce_gcall2 ?_ | refine ce_gno ?_ | refine ce_gskip ?_ | refine ce_gno2 ?_) | ((with_reducible apply gt_g); first | refine ce_gval ?_ | refine ce_gno ?_ | refine ce_gskip ?_ | refine ce_gval2 ?_ | refine ce_gno2 ?_) | ((with_reducible apply gd_call); first | refine de_callS ?_ | refine de_callO ?_) | ((with_reducible apply gd_alloc); (refine de_alloc ?_; intro la ha hn1; replace hNE := And.intro hNE hn1)) | ((with_reducible apply gd_store); first | refine de_store ?_ | refine de_storeZ ?_) | ((with_reducible apply gd_gcall); first | refine de_gcallS ?_ | refine de_gcallO ?_ | refine de_gcall2 ?_ | refine de_gno ?_ | refine de_gskip ?_ | refine de_gno2 ?_) | ((with_reducible apply gd_g); first | refine de_gval ?_ | refine de_gno ?_ | refine de_gskip ?_ | refine de_gval2 ?_ | refine de_gno2 ?_) | ((with_reducible apply gt_cond); first | refine c_cond ?_ ?_ | refine c_condB ?_ ?_) | ((with_reducible apply gt_any); refine ce_val ?_) | ((with_reducible apply gd_any); refine de_val ?_) | ((with_reducible apply gt_drw); first | refine ce_drwA ?_ | refine ce_drwE ?_ | refine ce_drwK ?_ | refine ce_drwZ ?_) | with_reducible first | apply k_seq | apply t_seq | apply t_reg | apply t_nil | apply t_skip | apply t_ret | apply t_exit | apply k_seq_exit | apply k_seq_ret | apply k_blk_exit | refine k_blk_other (by decide) ?_ | apply k_blk_ret | apply k_blk | apply t_block | apply m_nil | (with_reducible intro hc; with_reducible exact Bool.noConfusion hc) | (with_reducible intro hc; replace hC := And.intro hC hc))
    rename_i le ae ne c1 lt at_ nt c2
    obtain ⟨lv, h4⟩ : ∃ l, l = la := ⟨la, rfl⟩
    subst h4
    refine t_loopX (fun (k0 : Nat) (E0 : Nat → PV) (H0 : Hp) => ∃ (m : Nat), m + k0 = n ∧ ((le = lt) = False ∧ (lt = le) = False ∧ (le = lv) = False ∧ (lv = le) = False ∧ (lt = lv) = False ∧ (lv = lt) = False) ∧ (E0 16 = .int .i64 (m : Int)) ∧ H0 = hp [(le, .row true 7 ([.agg [.int .i64 1, .int .i64 20, .list .nil [], .list .nil [], .str [], .bool false, .int .i64 0]])), (lt, .row true 3 ([.agg [.int .i64 A, .int .i64 K, .int .i64 P]])), (lv, .row true 7 ([.agg [.int .i64 v.access, .int .i64 v.width, .list .any (v.recs.map encS), .list .any (v.there.map encB), .str v.bytes, .bool v.ended, .int .i64 v.pos]]))]) (n) ?_ ?_
    intro Ng
    refine ⟨_, _, wkE_id, (by repeat' first | exact rowsok_nil | refine rowsok_cons ?_ ?_ | exact rowok_ghost (by assumption) | exact rowA | ((try simp only [cast0]) <;> exact rowA)), 0, (by first | omega | rfl | assumption | (first | exact lv_eq | ((try simp only [cast0]) <;> exact lv_eq) | (simp (maxDischargeDepth := 8) only [go_sem, hNE, hA, cast0, List.length_append, List.length_cons, List.length_nil, Nat.zero_add]; first | done | rfl))), (by (repeat' apply And.intro) <;> exact lv_eq), (by (repeat' apply And.intro) <;> first | exact lv_eq | ((try simp only [cast0]) <;> exact lv_eq) | (simp (maxDischargeDepth := 8) only [go_sem, hNE, hA, cast0, List.length_append, List.length_cons, List.length_nil, Nat.zero_add]; first | done | rfl)), rfl⟩
    rintro k0 E0 H0 hfr0 ⟨m, hm, ⟨d0_0, d0_1, d0_2, d0_3, d0_4, d0_5⟩, h0_16, rfl⟩
    have e0_0 := hfr0 0 rfl; have e0_5 := hfr0 5 rfl; have e0_12 := hfr0 12 rfl; have e0_15 := hfr0 15 rfl
    simp (maxDischargeDepth := 8) only [go_sem, cast0, hNE] at e0_0 e0_5 e0_12 e0_15
    clear hfr0
    have d0 := And.intro d0_0 (And.intro d0_1 (And.intro d0_2 (And.intro d0_3 (And.intro d0_4 (d0_5)))))
    have hml : (l.take m).length = m := by rw [List.length_take]; omega
    have h25n := p25 (l.take m) (by omega)
    have h24 := hR m (by omega)
    have hlast := hrecL m
    generalize rn m = R at h24 hlast
    (replace hA := And.intro e0_0 (And.intro e0_5 (And.intro e0_12 (And.intro e0_15 (And.intro h0_16 (d0))))); replace hP := And.intro h14 (And.intro h25n (And.intro h24 (True.intro))); repeat' first | ((with_reducible apply gt_call); first | refine ce_callS ?_ | refine ce_callO ?_) | ((with_reducible apply gt_alloc); (refine ce_alloc ?_; intro la ha hn1; replace hNE := And.intro hNE hn1)) | ((with_reducible apply gt_box); refine ce_box ?_) | ((with_reducible apply gt_store); refine ce_store ?_) | ((with_reducible apply gt_gcall); first | refine ce_gcallS ?_ | refine ce_gcallO ?_ | refine ce_gcall2 ?_ | refine ce_gno ?_ | refine ce_gskip ?_ | refine ce_gno2 ?_) | ((with_reducible apply gt_g); first | refine ce_gval ?_ | refine ce_gno ?_ | refine ce_gskip ?_ | refine ce_gval2 ?_ | refine ce_gno2 ?_) | ((with_reducible apply gd_call); first | refine de_callS ?_ | refine de_callO ?_) | ((with_reducible apply gd_alloc); (refine de_alloc ?_; intro la ha hn1; replace hNE := And.intro hNE hn1)) | ((with_reducible apply gd_store); first | refine de_store ?_ | refine de_storeZ ?_) | ((with_reducible apply gd_gcall); first | refine de_gcallS ?_ | refine de_gcallO ?_ | refine de_gcall2 ?_ | refine de_gno ?_ | refine de_gskip ?_ | refine de_gno2 ?_) | ((with_reducible apply gd_g); first | refine de_gval ?_ | refine de_gno ?_ | refine de_gskip ?_ | refine de_gval2 ?_ | refine de_gno2 ?_) | ((with_reducible apply gt_cond); first | refine c_cond ?_ ?_ | refine c_condB ?_ ?_) | ((with_reducible apply gt_any); refine ce_val ?_) | ((with_reducible apply gd_any); refine de_val ?_) | ((with_reducible apply gt_drw); first | refine ce_drwA ?_ | refine ce_drwE ?_ | refine ce_drwK ?_ | refine ce_drwZ ?_) | with_reducible first | apply k_seq | apply t_seq | apply t_reg | apply t_nil | apply t_skip | apply t_ret | apply t_exit | apply k_seq_exit | apply k_seq_ret | apply k_blk_exit | refine k_blk_other (by decide) ?_ | apply k_blk_ret | apply k_blk | apply k_invX_ret | apply k_invX_exit | apply t_block | apply m_nil | (with_reducible intro hc; with_reducible exact Bool.noConfusion hc) | (with_reducible intro hc; replace hC := And.intro hC hc))
    obtain ⟨lr, h5⟩ : ∃ l, l = la := ⟨la, rfl⟩
    subst h5
    refine t_loopX (fun (k2 : Nat) (E2 : Nat → PV) (H2 : Hp) => ∃ (s : Bool) (i : Nat), i + k2 = 13 ∧ 1 ≤ i ∧ (m = n → s = true) ∧ ((le = lt) = False ∧ (lt = le) = False ∧ (le = lv) = False ∧ (lv = le) = False ∧ (lt = lv) = False ∧ (lv = lt) = False ∧ (le = lr) = False ∧ (lr = le) = False ∧ (lt = lr) = False ∧ (lr = lt) = False ∧ (lv = lr) = False ∧ (lr = lv) = False) ∧ (E2 21 = .bool s ∧ E2 22 = .int .i64 (i : Int)) ∧ H2 = hp [(le, .row true 7 ([.agg [.int .i64 1, .int .i64 20, .list .nil [], .list .nil [], .str [], .bool false, .int .i64 0]])), (lt, .row true 3 ([.agg [.int .i64 A, .int .i64 K, .int .i64 P]])), (lv, .row true 7 ([.agg [.int .i64 v.access, .int .i64 v.width, .list .any (v.recs.map encS), .list .any (v.there.map encB), .str v.bytes, .bool v.ended, .int .i64 v.pos]])), (lr, .row true 7 ([.agg [.int .i64 R.1.access, .int .i64 R.1.width, .list .any (R.1.recs.map encS), .list .any (R.1.there.map encB), .str R.1.bytes, .bool R.1.ended, .int .i64 R.1.pos]]))]) (12) ?_ ?_
    intro Ng
    replace hA := And.intro hA (And.intro e0_0 (And.intro e0_5 (And.intro e0_12 (And.intro e0_15 (And.intro h0_16 (d0))))))
    refine ⟨_, _, wkE_id, (by repeat' first | exact rowsok_nil | refine rowsok_cons ?_ ?_ | exact rowok_ghost (by assumption) | exact rowA | ((try simp only [cast1]) <;> exact rowA)), true, 1, (by first | omega | rfl | assumption | (first | exact lv_eq | ((try simp only [cast1]) <;> exact lv_eq) | (simp (maxDischargeDepth := 8) only [go_sem, hNE, hA, cast1, List.length_append, List.length_cons, List.length_nil, Nat.zero_add]; first | done | rfl))), (by first | omega | rfl | assumption | (first | exact lv_eq | ((try simp only [cast1]) <;> exact lv_eq) | (simp (maxDischargeDepth := 8) only [go_sem, hNE, hA, cast1, List.length_append, List.length_cons, List.length_nil, Nat.zero_add]; first | done | rfl))), ?_, (by (repeat' apply And.intro) <;> exact lv_eq), (by (repeat' apply And.intro) <;> first | exact lv_eq | ((try simp only [cast1]) <;> exact lv_eq) | (simp (maxDischargeDepth := 8) only [go_sem, hNE, hA, cast1, List.length_append, List.length_cons, List.length_nil, Nat.zero_add]; first | done | rfl)), rfl⟩
    · intro _; rfl
    rintro k2 E2 H2 hfr2 ⟨s, i, hi, hi1, hs, ⟨d2_0, d2_1, d2_2, d2_3, d2_4, d2_5, d2_6, d2_7, d2_8, d2_9, d2_10, d2_11⟩, ⟨h2_21, h2_22⟩, rfl⟩
    have e2_0 := hfr2 0 rfl; have e2_4 := hfr2 4 rfl; have e2_5 := hfr2 5 rfl; have e2_12 := hfr2 12 rfl; have e2_15 := hfr2 15 rfl; have e2_16 := hfr2 16 rfl; have e2_17 := hfr2 17 rfl
    simp (maxDischargeDepth := 8) only [go_sem, e0_0, e0_5, e0_12, e0_15, h0_16, d0, cast1, hNE] at e2_0 e2_4 e2_5 e2_12 e2_15 e2_16 e2_17
    clear hfr2
    have d2 := And.intro d2_0 (And.intro d2_1 (And.intro d2_2 (And.intro d2_3 (And.intro d2_4 (And.intro d2_5 (And.intro d2_6 (And.intro d2_7 (And.intro d2_8 (And.intro d2_9 (And.intro d2_10 (d2_11)))))))))))
    by_cases hi13 : i ≤ 12
    · have h84v := p84 v i hi1 (by omega)
      have h84r := p84 R.1 i hi1 (by omega)
      simp only [encU] at h84v h84r
      have hl2 := hlast i
      generalize recF v i = ra at h84v hl2
      generalize recF R.1 i = rb at h84r hl2
      (replace hA := And.intro e0_0 (And.intro e0_5 (And.intro e0_12 (And.intro e0_15 (And.intro h0_16 (And.intro d0 (And.intro e2_0 (And.intro e2_4 (And.intro e2_5 (And.intro e2_12 (And.intro e2_15 (And.intro e2_16 (And.intro e2_17 (And.intro h2_21 (And.intro h2_22 (d2))))))))))))))); replace hP := And.intro h84v (And.intro h84r (True.intro)); repeat' first | ((with_reducible apply gt_call); first | refine ce_callS ?_ | refine ce_callO ?_) | ((with_reducible apply gt_alloc); (refine ce_alloc ?_; intro la ha hn1; replace hNE := And.intro hNE hn1)) | ((with_reducible apply gt_box); refine ce_box ?_) | ((with_reducible apply gt_store); refine ce_store ?_) | ((with_reducible apply gt_gcall); first | refine ce_gcallS ?_ | refine ce_gcallO ?_ | refine ce_gcall2 ?_ | refine ce_gno ?_ | refine ce_gskip ?_ | refine ce_gno2 ?_) | ((with_reducible apply gt_g); first | refine ce_gval ?_ | refine ce_gno ?_ | refine ce_gskip ?_ | refine ce_gval2 ?_ | refine ce_gno2 ?_) | ((with_reducible apply gd_call); first | refine de_callS ?_ | refine de_callO ?_) | ((with_reducible apply gd_alloc); (refine de_alloc ?_; intro la ha hn1; replace hNE := And.intro hNE hn1)) | ((with_reducible apply gd_store); first | refine de_store ?_ | refine de_storeZ ?_) | ((with_reducible apply gd_gcall); first | refine de_gcallS ?_ | refine de_gcallO ?_ | refine de_gcall2 ?_ | refine de_gno ?_ | refine de_gskip ?_ | refine de_gno2 ?_) | ((with_reducible apply gd_g); first | refine de_gval ?_ | refine de_gno ?_ | refine de_gskip ?_ | refine de_gval2 ?_ | refine de_gno2 ?_) | ((with_reducible apply gt_cond); first | refine c_cond ?_ ?_ | refine c_condB ?_ ?_) | ((with_reducible apply gt_any); refine ce_val ?_) | ((with_reducible apply gd_any); refine de_val ?_) | ((with_reducible apply gt_drw); first | refine ce_drwA ?_ | refine ce_drwE ?_ | refine ce_drwK ?_ | refine ce_drwZ ?_) | with_reducible first | apply k_seq | apply t_seq | apply t_reg | apply t_nil | apply t_skip | apply t_ret | apply t_exit | apply k_seq_exit | apply k_seq_ret | apply k_blk_exit | refine k_blk_other (by decide) ?_ | apply k_blk_ret | apply k_blk | apply k_invX_ret | apply k_invX_exit | apply t_block | apply m_nil | (with_reducible intro hc; with_reducible exact Bool.noConfusion hc) | (with_reducible intro hc; replace hC := And.intro hC hc))
      refine k_invX (k2 - 1) (by omega) ?_
      intro Ng
      replace hA := And.intro hA (And.intro e0_0 (And.intro e0_5 (And.intro e0_12 (And.intro e0_15 (And.intro h0_16 (And.intro d0 (And.intro e2_0 (And.intro e2_4 (And.intro e2_5 (And.intro e2_12 (And.intro e2_15 (And.intro e2_16 (And.intro e2_17 (And.intro h2_21 (And.intro h2_22 (d2))))))))))))))))
      refine ⟨_, _, wkE_id, (by repeat' first | exact rowsok_nil | refine rowsok_cons ?_ ?_ | exact rowok_ghost (by assumption) | exact rowA), decide (s = true ∧ ra = rb), i + 1, (by first | omega | (simp only [List.length_append, List.length_cons, List.length_nil, List.length_drop, List.length_take, List.length_map]; omega)), (by first | omega | (simp only [List.length_append, List.length_cons, List.length_nil, List.length_drop, List.length_take, List.length_map]; omega)), ?_, (by (repeat' apply And.intro) <;> exact lv_eq), (by (repeat' apply And.intro) <;> exact lv_eq), rfl⟩
      · intro h; have := hl2 h hi1 (by omega); by_cases hio : (i : Int) = 0 <;> simp_all
    · cases s with
      | false =>
        have hmn : ¬ m = n := fun h => absurd (hs h) (by simp)
        (replace hA := And.intro e0_0 (And.intro e0_5 (And.intro e0_12 (And.intro e0_15 (And.intro h0_16 (And.intro d0 (And.intro e2_0 (And.intro e2_4 (And.intro e2_5 (And.intro e2_12 (And.intro e2_15 (And.intro e2_16 (And.intro e2_17 (And.intro h2_21 (And.intro h2_22 (d2))))))))))))))); replace hP := True.intro; repeat' first | ((with_reducible apply gt_call); first | refine ce_callS ?_ | refine ce_callO ?_) | ((with_reducible apply gt_alloc); (refine ce_alloc ?_; intro la ha hn1; replace hNE := And.intro hNE hn1)) | ((with_reducible apply gt_box); refine ce_box ?_) | ((with_reducible apply gt_store); refine ce_store ?_) | ((with_reducible apply gt_gcall); first | refine ce_gcallS ?_ | refine ce_gcallO ?_ | refine ce_gcall2 ?_ | refine ce_gno ?_ | refine ce_gskip ?_ | refine ce_gno2 ?_) | ((with_reducible apply gt_g); first | refine ce_gval ?_ | refine ce_gno ?_ | refine ce_gskip ?_ | refine ce_gval2 ?_ | refine ce_gno2 ?_) | ((with_reducible apply gd_call); first | refine de_callS ?_ | refine de_callO ?_) | ((with_reducible apply gd_alloc); (refine de_alloc ?_; intro la ha hn1; replace hNE := And.intro hNE hn1)) | ((with_reducible apply gd_store); first | refine de_store ?_ | refine de_storeZ ?_) | ((with_reducible apply gd_gcall); first | refine de_gcallS ?_ | refine de_gcallO ?_ | refine de_gcall2 ?_ | refine de_gno ?_ | refine de_gskip ?_ | refine de_gno2 ?_) | ((with_reducible apply gd_g); first | refine de_gval ?_ | refine de_gno ?_ | refine de_gskip ?_ | refine de_gval2 ?_ | refine de_gno2 ?_) | ((with_reducible apply gt_cond); first | refine c_cond ?_ ?_ | refine c_condB ?_ ?_) | ((with_reducible apply gt_any); refine ce_val ?_) | ((with_reducible apply gd_any); refine de_val ?_) | ((with_reducible apply gt_drw); first | refine ce_drwA ?_ | refine ce_drwE ?_ | refine ce_drwK ?_ | refine ce_drwZ ?_) | with_reducible first | apply k_seq | apply t_seq | apply t_reg | apply t_nil | apply t_skip | apply t_ret | apply t_exit | apply k_seq_exit | apply k_seq_ret | apply k_blk_exit | refine k_blk_other (by decide) ?_ | apply k_blk_ret | apply k_blk | apply k_invX_ret | apply k_invX_exit | apply t_block | apply m_nil | (with_reducible intro hc; with_reducible exact Bool.noConfusion hc) | (with_reducible intro hc; replace hC := And.intro hC hc))
        refine k_invX (k0 - 1) (by omega) ?_
        intro Ng
        replace hA := And.intro hA (And.intro e0_0 (And.intro e0_5 (And.intro e0_12 (And.intro e0_15 (And.intro h0_16 (And.intro d0 (And.intro e2_0 (And.intro e2_4 (And.intro e2_5 (And.intro e2_12 (And.intro e2_15 (And.intro e2_16 (And.intro e2_17 (And.intro h2_21 (And.intro h2_22 (d2))))))))))))))))
        refine ⟨_, _, wkE_id, (by repeat' first | exact rowsok_nil | refine rowsok_cons ?_ ?_ | exact rowok_ghost (by assumption) | exact rowA), m + 1, (by first | omega | (simp only [List.length_append, List.length_cons, List.length_nil, List.length_drop, List.length_take, List.length_map]; omega)), (by (repeat' apply And.intro) <;> exact lv_eq), (by (repeat' apply And.intro) <;> exact lv_eq), rfl⟩
      | true =>
        (replace hA := And.intro e0_0 (And.intro e0_5 (And.intro e0_12 (And.intro e0_15 (And.intro h0_16 (And.intro d0 (And.intro e2_0 (And.intro e2_4 (And.intro e2_5 (And.intro e2_12 (And.intro e2_15 (And.intro e2_16 (And.intro e2_17 (And.intro h2_21 (And.intro h2_22 (d2))))))))))))))); replace hP := True.intro; repeat' first | ((with_reducible apply gt_call); first | refine ce_callS ?_ | refine ce_callO ?_) | ((with_reducible apply gt_alloc); (refine ce_alloc ?_; intro la ha hn1; replace hNE := And.intro hNE hn1)) | ((with_reducible apply gt_box); refine ce_box ?_) | ((with_reducible apply gt_store); refine ce_store ?_) | ((with_reducible apply gt_gcall); first | refine ce_gcallS ?_ | refine ce_gcallO ?_ | refine ce_gcall2 ?_ | refine ce_gno ?_ | refine ce_gskip ?_ | refine ce_gno2 ?_) | ((with_reducible apply gt_g); first | refine ce_gval ?_ | refine ce_gno ?_ | refine ce_gskip ?_ | refine ce_gval2 ?_ | refine ce_gno2 ?_) | ((with_reducible apply gd_call); first | refine de_callS ?_ | refine de_callO ?_) | ((with_reducible apply gd_alloc); (refine de_alloc ?_; intro la ha hn1; replace hNE := And.intro hNE hn1)) | ((with_reducible apply gd_store); first | refine de_store ?_ | refine de_storeZ ?_) | ((with_reducible apply gd_gcall); first | refine de_gcallS ?_ | refine de_gcallO ?_ | refine de_gcall2 ?_ | refine de_gno ?_ | refine de_gskip ?_ | refine de_gno2 ?_) | ((with_reducible apply gd_g); first | refine de_gval ?_ | refine de_gno ?_ | refine de_gskip ?_ | refine de_gval2 ?_ | refine de_gno2 ?_) | ((with_reducible apply gt_cond); first | refine c_cond ?_ ?_ | refine c_condB ?_ ?_) | ((with_reducible apply gt_any); refine ce_val ?_) | ((with_reducible apply gd_any); refine de_val ?_) | ((with_reducible apply gt_drw); first | refine ce_drwA ?_ | refine ce_drwE ?_ | refine ce_drwK ?_ | refine ce_drwZ ?_) | with_reducible first | apply k_seq | apply t_seq | apply t_reg | apply t_nil | apply t_skip | apply t_ret | apply t_exit | apply k_seq_exit | apply k_seq_ret | apply k_blk_exit | refine k_blk_other (by decide) ?_ | apply k_blk_ret | apply k_blk | apply k_invX_ret | apply k_invX_exit | apply t_block | apply m_nil | (with_reducible intro hc; with_reducible exact Bool.noConfusion hc) | (with_reducible intro hc; replace hC := And.intro hC hc))
        all_goals ((first | refine cpendE rs48 ?_ | refine cpendNE rs48 ?_); (exact fin_eq))
end Go.Proofs.Ythdgdngdfijfhaa
namespace Go.Proofs.Ythdgdngdfijfhaa
open Go.RowKit Go.Proofs
set_option linter.unusedVariables false
set_option linter.unusedSimpArgs false
attribute [local irreducible] PPure CallN Tops TopsDm T
def encN8 (n : Nat) : PV := .int .u8 (n : Int)
theorem clN8 (xs : List Nat) : xs.all (closedB false ∘ encN8) = true := cl_map (fun _ => rfl) xs
theorem wdN8 (xs : List Nat) : widthB 1 (xs.map encN8) = true := width_map (e := encN8) (fun _ => rfl) xs
attribute [go_sem] clN8 wdN8
theorem sq_valid {l : List (List UInt8)} {i : Nat} (h : l.length ≤ 60) (hs : ∀ s ∈ l, s.length ≤ 200) (hi : i ≤ l.length + 1) : Vu (sqU l i) := by
  left; exact ⟨rfl, rfl, h, hs, rfl, rfl, by simp [sqU], by simp [sqU]; omega⟩
theorem doneG_ok {u : Un} {a : Ac} (h : Vu u) (ha : actE a = 0) : doneG u a = (doneF u a, 0) := by
  rw [doneG, if_pos]; rw [orE_zero]; intro x hx
  simp at hx
  rcases hx with rfl | rfl
  · exact (unitE_zero u).2 h
  · exact ha
attribute [local go_sem] encS encN8 List.take_length beq_self_eq_true in
set_option maxRecDepth 8192 in
set_option maxHeartbeats 8000000 in
theorem law10 (l : List (List UInt8)) (ns : List Nat) (hns : ∀ n ∈ ns, n < 256) (y : Fy) (hy : okFy y) : PPure Try.prog 10 [.list .any (l.map encS), .list .any (ns.map encN8), encFy y] (.bool true) := by
  have h11 := p11
  by_cases h20 : 20 < l.length
  · simp only [encFy]
    (refine ppure_of_T ok10 (by simp only [List.length_cons, List.length_nil]; decide) ?_; refine t_seq ?_)
    have hNE := True.intro; have hC := True.intro; have hA := True.intro; have hP := True.intro
    (replace hA := True.intro; replace hP := And.intro h11 (True.intro); repeat' first | ((with_reducible apply gt_call); first | refine ce_callS ?_ | refine ce_callO ?_) | ((with_reducible apply gt_alloc); (refine ce_alloc ?_; intro la ha hn1; replace hNE := And.intro hNE hn1)) | ((with_reducible apply gt_box); (refine ce_boxL ?_; intro la ha hn1; replace hNE := And.intro hNE hn1)) | ((with_reducible apply gt_store); refine ce_store ?_) | ((with_reducible apply gt_g); first | refine ce_gval ?_ | refine ce_gno ?_ | refine ce_gskip ?_ | refine ce_gval2 ?_ | refine ce_gno2 ?_) | ((with_reducible refine gt_appT app_44 ?_); first | refine ce_appendE app_44 c_57 ?_ | (refine ce_appendL app_44 c_57 ?_; intro la ha hn1; replace hNE := And.intro hNE hn1) | refine ce_append app_44 c_57 ?_ ?_ | (refine ce_appendB app_44 c_57 ?_; intro la ha hn1; replace hNE := And.intro hNE hn1)) | ((with_reducible apply gd_g); first | refine de_gval ?_ | refine de_gno ?_ | refine de_gskip ?_ | refine de_gval2 ?_ | refine de_gno2 ?_) | ((with_reducible refine gd_appT app_44 ?_); first | (refine de_appendU app_44 c_57 ?_; intro la ha hn1; replace hNE := And.intro hNE hn1) | refine de_append app_44 c_57 ?_ ?_ | (refine de_appendL app_44 c_57 ?_; intro la ha hn1; replace hNE := And.intro hNE hn1) | (refine de_appendB app_44 c_57 ?_; intro la ha hn1; replace hNE := And.intro hNE hn1)) | ((with_reducible apply gt_cond); first | refine c_cond ?_ ?_ | refine c_condB ?_ ?_) | ((with_reducible apply gt_any); refine ce_val ?_) | ((with_reducible apply gd_any); refine de_val ?_) | ((with_reducible apply gt_drw); first | refine ce_drwA ?_ | refine ce_drwE ?_ | refine ce_drwK ?_ | refine ce_drwZ ?_) | with_reducible first | apply k_seq | apply t_seq | apply t_reg | apply t_nil | apply t_skip | apply t_ret | apply t_exit | apply k_seq_exit | apply k_seq_ret | apply k_blk_exit | refine k_blk_other (by decide) ?_ | apply k_blk_ret | apply k_blk | apply t_block | apply m_nil | (with_reducible intro hc; with_reducible exact Bool.noConfusion hc) | (with_reducible intro hc; replace hC := And.intro hC hc))
    all_goals ((first | refine cpendE rs10 ?_ | refine cpendNE rs10 ?_); (exact fin_eq))
  have h48 := fun (ds : List Ac) (h1 : ∀ a ∈ ds, actE a = 0) (h2 : ds.length ≤ 20) => p48 ds y hy h1 h2
  simp only [encFy] at h48 ⊢
  (refine ppure_of_T ok10 (by simp only [List.length_cons, List.length_nil]; decide) ?_; refine t_seq ?_)
  have hNE := True.intro; have hC := True.intro; have hA := True.intro; have hP := True.intro
  (replace hA := True.intro; replace hP := And.intro h11 (True.intro); repeat' first | ((with_reducible apply gt_call); first | refine ce_callS ?_ | refine ce_callO ?_) | ((with_reducible apply gt_alloc); (refine ce_alloc ?_; intro la ha hn1; replace hNE := And.intro hNE hn1)) | ((with_reducible apply gt_box); refine ce_box ?_) | ((with_reducible apply gt_store); refine ce_store ?_) | ((with_reducible apply gt_g); first | refine ce_gval ?_ | refine ce_gno ?_ | refine ce_gskip ?_ | refine ce_gval2 ?_ | refine ce_gno2 ?_) | ((with_reducible refine gt_appT app_44 ?_); first | refine ce_appendE app_44 c_57 ?_ | (refine ce_appendL app_44 c_57 ?_; intro la ha hn1; replace hNE := And.intro hNE hn1) | refine ce_append app_44 c_57 ?_ ?_ | (refine ce_appendB app_44 c_57 ?_; intro la ha hn1; replace hNE := And.intro hNE hn1)) | ((with_reducible apply gd_g); first | refine de_gval ?_ | refine de_gno ?_ | refine de_gskip ?_ | refine de_gval2 ?_ | refine de_gno2 ?_) | ((with_reducible refine gd_appT app_44 ?_); first | (refine de_appendU app_44 c_57 ?_; intro la ha hn1; replace hNE := And.intro hNE hn1) | refine de_append app_44 c_57 ?_ ?_ | (refine de_appendL app_44 c_57 ?_; intro la ha hn1; replace hNE := And.intro hNE hn1) | (refine de_appendB app_44 c_57 ?_; intro la ha hn1; replace hNE := And.intro hNE hn1)) | ((with_reducible apply gt_cond); first | refine c_cond ?_ ?_ | refine c_condB ?_ ?_) | ((with_reducible apply gt_any); refine ce_val ?_) | ((with_reducible apply gd_any); refine de_val ?_) | ((with_reducible apply gt_drw); first | refine ce_drwA ?_ | refine ce_drwE ?_ | refine ce_drwK ?_ | refine ce_drwZ ?_) | with_reducible first | apply k_seq | apply t_seq | apply t_reg | apply t_nil | apply t_skip | apply t_ret | apply t_exit | apply k_seq_exit | apply k_seq_ret | apply k_blk_exit | refine k_blk_other (by decide) ?_ | apply k_blk_ret | apply k_blk | apply t_block | apply m_nil | (with_reducible intro hc; with_reducible exact Bool.noConfusion hc) | (with_reducible intro hc; replace hC := And.intro hC hc))
  refine t_loopX (fun (k0 : Nat) (E0 : Nat → PV) (H0 : Hp) => ∃ (i : Nat) (xs : List Ac) (ds : List Ac) (lo : Lab) (lm : Lab), i + k0 = l.length ∧ ds.length ≤ i ∧ xs.length = i ∧ xs = (l.take i).map wrA ∧ (∀ a ∈ ds, actE a = 0) ∧ (∀ s ∈ l.take i, s.length ≤ 20) ∧ ((lo = lm) = False ∧ (lm = lo) = False) ∧ (E0 9 = .int .i64 (i : Int) ∧ E0 7 = .arr lo 3 0 (xs.length) ∧ E0 8 = .arr lm 3 0 (ds.length)) ∧ H0 = hp [(lo, .row true 3 (xs.map encAc)), (lm, .row true 3 (ds.map encAc))]) (l.length) ?_ ?_
  intro Ng
  obtain ⟨g_lo, g_lo1, g_lo2⟩ := ghost_new Ng []
  obtain ⟨g_lm, g_lm1, g_lm2⟩ := ghost_new Ng [g_lo]
  have g_lm3 := (g_lm2 g_lo (by simp only [List.mem_cons, List.mem_nil_iff, true_or, or_true]))
  replace hA := And.intro hA g_lm3
  refine ⟨_, _, (wkE_upd (t := 8) (v := .arr g_lm 3 0 0) (wkE_upd (t := 7) (v := .arr g_lo 3 0 0) wkE_id rfl wv_nil) rfl wv_nil), (by repeat' first | exact rowsok_nil | refine rowsok_cons ?_ ?_ | exact rowok_ghost (by assumption) | exact rowA | ((try simp only [cast0, List.map_nil]) <;> exact rowA)), 0, [], [], g_lo, g_lm, (by first | omega | rfl | assumption | (first | exact lv_eq | ((try simp only [cast0, List.map_nil]) <;> exact lv_eq) | (simp (maxDischargeDepth := 8) only [go_sem, hNE, hA, cast0, List.map_nil, List.length_append, List.length_cons, List.length_nil, Nat.zero_add]; first | done | rfl))), (by first | omega | rfl | assumption | (first | exact lv_eq | ((try simp only [cast0, List.map_nil]) <;> exact lv_eq) | (simp (maxDischargeDepth := 8) only [go_sem, hNE, hA, cast0, List.map_nil, List.length_append, List.length_cons, List.length_nil, Nat.zero_add]; first | done | rfl))), (by first | omega | rfl | assumption | (first | exact lv_eq | ((try simp only [cast0, List.map_nil]) <;> exact lv_eq) | (simp (maxDischargeDepth := 8) only [go_sem, hNE, hA, cast0, List.map_nil, List.length_append, List.length_cons, List.length_nil, Nat.zero_add]; first | done | rfl))), ?_, ?_, ?_, (by (repeat' apply And.intro) <;> exact lv_eq), (by (repeat' apply And.intro) <;> first | exact lv_eq | ((try simp only [cast0, List.map_nil]) <;> exact lv_eq) | (simp (maxDischargeDepth := 8) only [go_sem, hNE, hA, cast0, List.map_nil, List.length_append, List.length_cons, List.length_nil, Nat.zero_add]; first | done | rfl)), rfl⟩
  · rfl
  · intro a ha; cases ha
  · intro s hs; cases hs
  rintro k0 E0 H0 hfr0 ⟨i, xs, ds, lo, lm, hi, hdl, hxl, hxs, hds, hsh, ⟨d0_0, d0_1⟩, ⟨h0_9, h0_7, h0_8⟩, rfl⟩
  have e0_0 := hfr0 0 rfl; have e0_1 := hfr0 1 rfl; have e0_5 := hfr0 5 rfl
  simp (maxDischargeDepth := 8) only [go_sem, cast0, List.map_nil, hNE] at e0_0 e0_1 e0_5
  clear hfr0
  have d0 := And.intro d0_0 (d0_1)
  by_cases hil : i < l.length
  · by_cases hbig : 20 < l[i].length
    · (replace hA := And.intro e0_0 (And.intro e0_1 (And.intro e0_5 (And.intro h0_9 (And.intro h0_7 (And.intro h0_8 (d0)))))); replace hP := True.intro; repeat' first | ((with_reducible apply gt_call); first | refine ce_callS ?_ | refine ce_callO ?_) | ((with_reducible apply gt_alloc); (refine ce_alloc ?_; intro la ha hn1; replace hNE := And.intro hNE hn1)) | ((with_reducible apply gt_box); (refine ce_boxL ?_; intro la ha hn1; replace hNE := And.intro hNE hn1)) | ((with_reducible apply gt_store); refine ce_store ?_) | ((with_reducible apply gt_g); first | refine ce_gval ?_ | refine ce_gno ?_ | refine ce_gskip ?_ | refine ce_gval2 ?_ | refine ce_gno2 ?_) | ((with_reducible refine gt_appT app_44 ?_); first | refine ce_appendE app_44 c_57 ?_ | (refine ce_appendL app_44 c_57 ?_; intro la ha hn1; replace hNE := And.intro hNE hn1) | refine ce_append app_44 c_57 ?_ ?_ | (refine ce_appendB app_44 c_57 ?_; intro la ha hn1; replace hNE := And.intro hNE hn1)) | ((with_reducible apply gd_g); first | refine de_gval ?_ | refine de_gno ?_ | refine de_gskip ?_ | refine de_gval2 ?_ | refine de_gno2 ?_) | ((with_reducible refine gd_appT app_44 ?_); first | (refine de_appendU app_44 c_57 ?_; intro la ha hn1; replace hNE := And.intro hNE hn1) | refine de_append app_44 c_57 ?_ ?_ | (refine de_appendL app_44 c_57 ?_; intro la ha hn1; replace hNE := And.intro hNE hn1) | (refine de_appendB app_44 c_57 ?_; intro la ha hn1; replace hNE := And.intro hNE hn1)) | ((with_reducible apply gt_cond); first | refine c_cond ?_ ?_ | refine c_condB ?_ ?_) | ((with_reducible apply gt_any); refine ce_val ?_) | ((with_reducible apply gd_any); refine de_val ?_) | ((with_reducible apply gt_drw); first | refine ce_drwA ?_ | refine ce_drwE ?_ | refine ce_drwK ?_ | refine ce_drwZ ?_) | with_reducible first | apply k_seq | apply t_seq | apply t_reg | apply t_nil | apply t_skip | apply t_ret | apply t_exit | apply k_seq_exit | apply k_seq_ret | apply k_blk_exit | refine k_blk_other (by decide) ?_ | apply k_blk_ret | apply k_blk | apply k_invX_ret | apply k_invX_exit | apply t_block | apply m_nil | (with_reducible intro hc; with_reducible exact Bool.noConfusion hc) | (with_reducible intro hc; replace hC := And.intro hC hc))
      all_goals ((first | refine cpendE rs10 ?_ | refine cpendNE rs10 ?_); (exact fin_eq))
    · have ht := take_in hil
      have hsh2 : ∀ s ∈ l.take (i + 1), s.length ≤ 20 := by
        intro s hs
        rw [ht] at hs
        rcases List.mem_append.1 hs with h | h
        · exact hsh s h
        · rw [List.mem_singleton.1 h]; omega
      have hta : (xs ++ [wrA l[i]]).map encAc = xs.map encAc ++ [.agg [.int .i64 1, .int .i64 0, .str l[i]]] := by simp [wrA, encAc]
      have hxs2 : xs ++ [wrA l[i]] = (l.take (i + 1)).map wrA := by rw [ht, hxs, List.map_append, List.map_cons, List.map_nil]
      by_cases hin : i < ns.length
      · have hn8 := hns _ (List.getElem_mem hin)
        have hm : ((ns[i] : Nat) : Int).tmod 12 = ((ns[i] % 12 : Nat) : Int) := rfl
        have hmb := Nat.mod_lt ns[i] (show 0 < 12 by omega)
        have hda : (ds ++ [(⟨1, ((ns[i] % 12 + 1 : Nat) : Int), l[i]⟩ : Ac)]).map encAc = ds.map encAc ++ [.agg [.int .i64 1, .int .i64 ((ns[i] % 12 + 1 : Nat) : Int), .str l[i]]] := by simp [encAc]
        have hok : actE (⟨1, ((ns[i] % 12 + 1 : Nat) : Int), l[i]⟩ : Ac) = 0 := by
          rw [actE_zero]; exact ⟨by simp, by simp only; omega, .inr rfl⟩
        have hds2 : ∀ a ∈ ds ++ [(⟨1, ((ns[i] % 12 + 1 : Nat) : Int), l[i]⟩ : Ac)], actE a = 0 := by
          intro a ha
          rcases List.mem_append.1 ha with h | h
          · exact hds a h
          · rw [List.mem_singleton.1 h]; exact hok
        generalize ns[i] % 12 = r at *
        (replace hA := And.intro e0_0 (And.intro e0_1 (And.intro e0_5 (And.intro h0_9 (And.intro h0_7 (And.intro h0_8 (And.intro d0 (hm))))))); replace hP := True.intro; repeat' first | ((with_reducible apply gt_call); first | refine ce_callS ?_ | refine ce_callO ?_) | ((with_reducible apply gt_alloc); (refine ce_alloc ?_; intro la ha hn1; replace hNE := And.intro hNE hn1)) | ((with_reducible apply gt_box); (refine ce_boxL ?_; intro la ha hn1; replace hNE := And.intro hNE hn1)) | ((with_reducible apply gt_store); refine ce_store ?_) | ((with_reducible apply gt_g); first | refine ce_gval ?_ | refine ce_gno ?_ | refine ce_gskip ?_ | refine ce_gval2 ?_ | refine ce_gno2 ?_) | ((with_reducible refine gt_appT app_44 ?_); first | refine ce_appendE app_44 c_57 ?_ | (refine ce_appendL app_44 c_57 ?_; intro la ha hn1; replace hNE := And.intro hNE hn1) | refine ce_append app_44 c_57 ?_ ?_ | (refine ce_appendB app_44 c_57 ?_; intro la ha hn1; replace hNE := And.intro hNE hn1)) | ((with_reducible apply gd_g); first | refine de_gval ?_ | refine de_gno ?_ | refine de_gskip ?_ | refine de_gval2 ?_ | refine de_gno2 ?_) | ((with_reducible refine gd_appT app_44 ?_); first | (refine de_appendQ app_44 c_57 ?_; intro la ha; have hn1 := or_ne ha; replace hNE := And.intro hNE hn1) | (refine de_appendU app_44 c_57 ?_; intro la ha hn1; replace hNE := And.intro hNE hn1) | refine de_append app_44 c_57 ?_ ?_ | (refine de_appendL app_44 c_57 ?_; intro la ha hn1; replace hNE := And.intro hNE hn1) | (refine de_appendB app_44 c_57 ?_; intro la ha hn1; replace hNE := And.intro hNE hn1)) | ((with_reducible apply gt_cond); first | refine c_cond ?_ ?_ | refine c_condB ?_ ?_) | ((with_reducible apply gt_any); refine ce_val ?_) | ((with_reducible apply gd_any); refine de_val ?_) | ((with_reducible apply gt_drw); first | refine ce_drwH lo lm ?_ | refine ce_drwA ?_ | refine ce_drwE ?_ | refine ce_drwK ?_ | refine ce_drwZ ?_) | with_reducible first | apply k_seq | apply t_seq | apply t_reg | apply t_nil | apply t_skip | apply t_ret | apply t_exit | apply k_seq_exit | apply k_seq_ret | apply k_blk_exit | refine k_blk_other (by decide) ?_ | apply k_blk_ret | apply k_blk | apply k_invX_ret | apply k_invX_exit | apply t_block | apply m_nil | (with_reducible intro hc; with_reducible exact Bool.noConfusion hc) | (with_reducible intro hc; replace hC := And.intro hC hc))
        rename_i lo2 _ _
        refine k_invX (k0 - 1) (by omega) ?_
        intro Ng
        replace hA := And.intro hA (And.intro e0_0 (And.intro e0_1 (And.intro e0_5 (And.intro h0_9 (And.intro h0_7 (And.intro h0_8 (And.intro d0 (And.intro hta (hda)))))))))
        refine ⟨_, _, wkE_id, (by repeat' first | exact rowsok_nil | refine rowsok_cons ?_ ?_ | exact rowok_ghost (by assumption) | exact rowA), i + 1, xs ++ [wrA l[i]], ds ++ [⟨1, ((r + 1 : Nat) : Int), l[i]⟩], lo2, la, (by first | omega | (simp only [List.length_append, List.length_cons, List.length_nil, List.length_drop, List.length_take, List.length_map]; omega)), (by first | omega | (simp only [List.length_append, List.length_cons, List.length_nil, List.length_drop, List.length_take, List.length_map]; omega)), (by first | omega | (simp only [List.length_append, List.length_cons, List.length_nil, List.length_drop, List.length_take, List.length_map]; omega)), ?_, ?_, ?_, (by (repeat' apply And.intro) <;> exact lv_eq), (by (repeat' apply And.intro) <;> exact lv_eq), rfl⟩
        · exact hxs2
        · exact hds2
        · exact hsh2
      · (replace hA := And.intro e0_0 (And.intro e0_1 (And.intro e0_5 (And.intro h0_9 (And.intro h0_7 (And.intro h0_8 (d0)))))); replace hP := True.intro; repeat' first | ((with_reducible apply gt_call); first | refine ce_callS ?_ | refine ce_callO ?_) | ((with_reducible apply gt_alloc); (refine ce_alloc ?_; intro la ha hn1; replace hNE := And.intro hNE hn1)) | ((with_reducible apply gt_box); (refine ce_boxL ?_; intro la ha hn1; replace hNE := And.intro hNE hn1)) | ((with_reducible apply gt_store); refine ce_store ?_) | ((with_reducible apply gt_g); first | refine ce_gval ?_ | refine ce_gno ?_ | refine ce_gskip ?_ | refine ce_gval2 ?_ | refine ce_gno2 ?_) | ((with_reducible refine gt_appT app_44 ?_); first | refine ce_appendE app_44 c_57 ?_ | (refine ce_appendL app_44 c_57 ?_; intro la ha hn1; replace hNE := And.intro hNE hn1) | refine ce_append app_44 c_57 ?_ ?_ | (refine ce_appendB app_44 c_57 ?_; intro la ha hn1; replace hNE := And.intro hNE hn1)) | ((with_reducible apply gd_g); first | refine de_gval ?_ | refine de_gno ?_ | refine de_gskip ?_ | refine de_gval2 ?_ | refine de_gno2 ?_) | ((with_reducible refine gd_appT app_44 ?_); first | (refine de_appendQ app_44 c_57 ?_; intro la ha; have hn1 := or_ne ha; replace hNE := And.intro hNE hn1) | (refine de_appendU app_44 c_57 ?_; intro la ha hn1; replace hNE := And.intro hNE hn1) | refine de_append app_44 c_57 ?_ ?_ | (refine de_appendL app_44 c_57 ?_; intro la ha hn1; replace hNE := And.intro hNE hn1) | (refine de_appendB app_44 c_57 ?_; intro la ha hn1; replace hNE := And.intro hNE hn1)) | ((with_reducible apply gt_cond); first | refine c_cond ?_ ?_ | refine c_condB ?_ ?_) | ((with_reducible apply gt_any); refine ce_val ?_) | ((with_reducible apply gd_any); refine de_val ?_) | ((with_reducible apply gt_drw); first | refine ce_drwH lo lm ?_ | refine ce_drwA ?_ | refine ce_drwE ?_ | refine ce_drwK ?_ | refine ce_drwZ ?_) | with_reducible first | apply k_seq | apply t_seq | apply t_reg | apply t_nil | apply t_skip | apply t_ret | apply t_exit | apply k_seq_exit | apply k_seq_ret | apply k_blk_exit | refine k_blk_other (by decide) ?_ | apply k_blk_ret | apply k_blk | apply k_invX_ret | apply k_invX_exit | apply t_block | apply m_nil | (with_reducible intro hc; with_reducible exact Bool.noConfusion hc) | (with_reducible intro hc; replace hC := And.intro hC hc))
        refine k_invX (k0 - 1) (by omega) ?_
        intro Ng
        replace hA := And.intro hA (And.intro e0_0 (And.intro e0_1 (And.intro e0_5 (And.intro h0_9 (And.intro h0_7 (And.intro h0_8 (And.intro d0 (hta))))))))
        refine ⟨_, _, wkE_id, (by repeat' first | exact rowsok_nil | refine rowsok_cons ?_ ?_ | exact rowok_ghost (by assumption) | exact rowA), i + 1, xs ++ [wrA l[i]], ds, la, lm, (by first | omega | (simp only [List.length_append, List.length_cons, List.length_nil, List.length_drop, List.length_take, List.length_map]; omega)), (by first | omega | (simp only [List.length_append, List.length_cons, List.length_nil, List.length_drop, List.length_take, List.length_map]; omega)), (by first | omega | (simp only [List.length_append, List.length_cons, List.length_nil, List.length_drop, List.length_take, List.length_map]; omega)), ?_, ?_, ?_, (by (repeat' apply And.intro) <;> exact lv_eq), (by (repeat' apply And.intro) <;> exact lv_eq), rfl⟩
        · exact hxs2
        · exact hds
        · exact hsh2
  have hil2 : i = l.length := by omega
  subst hil2
  rw [List.take_length] at hsh hxs
  have h4000 : ∀ s ∈ l, s.length ≤ 200 := fun s hs => by have := hsh s hs; omega
  have hacts : ∀ a ∈ l.map wrA, actE a = 0 := by
    intro a ha
    obtain ⟨s, hs, rfl⟩ := List.mem_map.1 ha
    exact wrA_ok (by have := hsh s hs; omega)
  have h24 := p24 zeU (l.map wrA) (by decide) (by decide) (by rw [List.length_map]; omega)
  have hrun : runG zeU (l.map wrA) = ((runL zeU (l.map wrA), ((l.map wrA).length : Int)), 0) := by
    rw [runG, if_pos (by decide), if_pos]
    rw [actsE, if_neg (by rw [List.length_map]; omega)]; exact (actsL_zero _ _).2 hacts
  have hru : (runL zeU (l.map wrA)).1 = sqU l l.length := by
    have := sq_run l [] (by simp; omega) h4000
    simpa [sqU, zeU] using this
  rw [hrun] at h24
  simp only [hru] at h24
  rw [← hxs] at h24
  generalize (runL zeU xs).2 = ans at h24
  have dn : ∀ (i : Nat) (a : Ac), i ≤ l.length + 1 → actE a = 0 → PPure Try.prog 29 [encU (sqU l i), encAc a] (.tup [encU (doneF (sqU l i) a).1, encAn (doneF (sqU l i) a).2, .int .i64 0]) := by
    intro i a hi ha
    have := p29 (sqU l i) a (by simp [sqU]; omega) (by simp [sqU])
    rw [doneG_ok (sq_valid (by omega) h4000 hi) ha] at this
    exact this
  have hrw := dn l.length ⟨3, 0, []⟩ (by omega) (by decide)
  rw [sq_rew] at hrw
  have hrd : ∀ (i : Nat) (h : i < l.length), PPure Try.prog 29 [encU (sqU l i), encAc ⟨0, 0, []⟩] (.tup [encU (sqU l (i + 1)), encAn ⟨0, l[i], 0⟩, .int .i64 0]) := by
    intro i h
    have := dn i ⟨0, 0, []⟩ (by omega) (by decide)
    rw [sq_read h] at this; exact this
  have hbs : ∀ (i : Nat) (h : i < l.length), PPure Try.prog 29 [encU (sqU l (i + 1)), encAc ⟨2, 0, []⟩] (.tup [encU (sqU l i), encAn (stA 0), .int .i64 0]) := by
    intro i h
    have := dn (i + 1) ⟨2, 0, []⟩ (by omega) (by decide)
    rw [sq_back h] at this; exact this
  have he1 := dn l.length ⟨0, 0, []⟩ (by omega) (by decide)
  rw [sq_end] at he1
  have he2 := dn (l.length + 1) ⟨0, 0, []⟩ (by omega) (by decide)
  rw [sq_behind] at he2
  have hcp : ∀ i : Nat, PPure Try.prog 14 [encU (sqU l i)] (encU (sqU l i)) := fun i => p14 (sqU l i) (by simp [sqU]; omega) (by simp [sqU])
  have h48 := h48 ds hds (by omega)
  clear dn hru hrun hxs hacts
  simp only [encU, encAc, encAn, sqU, stA, zeU, List.map_nil] at h24 hrw hrd hbs he1 he2 hcp
  (replace hA := And.intro e0_0 (And.intro e0_1 (And.intro e0_5 (And.intro h0_9 (And.intro h0_7 (And.intro h0_8 (d0)))))); replace hP := And.intro h24 (And.intro hrw (True.intro)); repeat' first | ((with_reducible apply gt_call); first | refine ce_callS ?_ | refine ce_callO ?_) | ((with_reducible apply gt_alloc); (refine ce_alloc ?_; intro la ha hn1; replace hNE := And.intro hNE hn1)) | ((with_reducible apply gt_box); (refine ce_boxL ?_; intro la ha hn1; replace hNE := And.intro hNE hn1)) | ((with_reducible apply gt_store); refine ce_store ?_) | ((with_reducible apply gt_g); first | refine ce_gval ?_ | refine ce_gno ?_ | refine ce_gskip ?_ | refine ce_gval2 ?_ | refine ce_gno2 ?_) | ((with_reducible refine gt_appT app_44 ?_); first | refine ce_appendE app_44 c_57 ?_ | (refine ce_appendL app_44 c_57 ?_; intro la ha hn1; replace hNE := And.intro hNE hn1) | refine ce_append app_44 c_57 ?_ ?_ | (refine ce_appendB app_44 c_57 ?_; intro la ha hn1; replace hNE := And.intro hNE hn1)) | ((with_reducible apply gd_g); first | refine de_gval ?_ | refine de_gno ?_ | refine de_gskip ?_ | refine de_gval2 ?_ | refine de_gno2 ?_) | ((with_reducible refine gd_appT app_44 ?_); first | (refine de_appendU app_44 c_57 ?_; intro la ha hn1; replace hNE := And.intro hNE hn1) | refine de_append app_44 c_57 ?_ ?_ | (refine de_appendL app_44 c_57 ?_; intro la ha hn1; replace hNE := And.intro hNE hn1) | (refine de_appendB app_44 c_57 ?_; intro la ha hn1; replace hNE := And.intro hNE hn1)) | ((with_reducible apply gt_cond); first | refine c_cond ?_ ?_ | refine c_condB ?_ ?_) | ((with_reducible apply gt_any); refine ce_val ?_) | ((with_reducible apply gd_any); refine de_val ?_) | ((with_reducible apply gt_drw); first | refine ce_drwA ?_ | refine ce_drwE ?_ | refine ce_drwK ?_ | refine ce_drwZ ?_) | with_reducible first | apply k_seq | apply t_seq | apply t_reg | apply t_nil | apply t_skip | apply t_ret | apply t_exit | apply k_seq_exit | apply k_seq_ret | apply k_blk_exit | refine k_blk_other (by decide) ?_ | apply k_blk_ret | apply k_blk | apply k_invX_ret | apply k_invX_exit | apply t_block | apply m_nil | (with_reducible intro hc; with_reducible exact Bool.noConfusion hc) | (with_reducible intro hc; replace hC := And.intro hC hc))
  refine te_callF [lo] (by exact eq28) (by exact eq28) (by exact eq28) h24 ?_
  (replace hA := And.intro e0_0 (And.intro e0_1 (And.intro e0_5 (And.intro h0_9 (And.intro h0_7 (And.intro h0_8 (d0)))))); replace hP := And.intro hrw (True.intro); repeat' first | ((with_reducible apply gt_call); first | refine ce_callS ?_ | refine ce_callO ?_) | ((with_reducible apply gt_alloc); (refine ce_alloc ?_; intro la ha hn1; replace hNE := And.intro hNE hn1)) | ((with_reducible apply gt_box); (refine ce_boxL ?_; intro la ha hn1; replace hNE := And.intro hNE hn1)) | ((with_reducible apply gt_store); refine ce_store ?_) | ((with_reducible apply gt_g); first | refine ce_gval ?_ | refine ce_gno ?_ | refine ce_gskip ?_ | refine ce_gval2 ?_ | refine ce_gno2 ?_) | ((with_reducible refine gt_appT app_44 ?_); first | refine ce_appendE app_44 c_57 ?_ | (refine ce_appendL app_44 c_57 ?_; intro la ha hn1; replace hNE := And.intro hNE hn1) | refine ce_append app_44 c_57 ?_ ?_ | (refine ce_appendB app_44 c_57 ?_; intro la ha hn1; replace hNE := And.intro hNE hn1)) | ((with_reducible apply gd_g); first | refine de_gval ?_ | refine de_gno ?_ | refine de_gskip ?_ | refine de_gval2 ?_ | refine de_gno2 ?_) | ((with_reducible refine gd_appT app_44 ?_); first | (refine de_appendU app_44 c_57 ?_; intro la ha hn1; replace hNE := And.intro hNE hn1) | refine de_append app_44 c_57 ?_ ?_ | (refine de_appendL app_44 c_57 ?_; intro la ha hn1; replace hNE := And.intro hNE hn1) | (refine de_appendB app_44 c_57 ?_; intro la ha hn1; replace hNE := And.intro hNE hn1)) | ((with_reducible apply gt_cond); first | refine c_cond ?_ ?_ | refine c_condB ?_ ?_) | ((with_reducible apply gt_any); refine ce_val ?_) | ((with_reducible apply gd_any); refine de_val ?_) | ((with_reducible apply gt_drw); first | refine ce_drwA ?_ | refine ce_drwE ?_ | refine ce_drwK ?_ | refine ce_drwZ ?_) | with_reducible first | apply k_seq | apply t_seq | apply t_reg | apply t_nil | apply t_skip | apply t_ret | apply t_exit | apply k_seq_exit | apply k_seq_ret | apply k_blk_exit | refine k_blk_other (by decide) ?_ | apply k_blk_ret | apply k_blk | apply k_invX_ret | apply k_invX_exit | apply t_block | apply m_nil | (with_reducible intro hc; with_reducible exact Bool.noConfusion hc) | (with_reducible intro hc; replace hC := And.intro hC hc))
  rename_i lu _ _
  refine t_loopX (fun (k2 : Nat) (E2 : Nat → PV) (H2 : Hp) => ∃ (i : Nat), i + k2 = l.length ∧ ((lu = lm) = False ∧ (lm = lu) = False) ∧ (E2 16 = .int .i64 (i : Int)) ∧ H2 = hp [(lu, .row true 7 ([.agg [.int .i64 0, .int .i64 0, .list .any (l.map encS), .list .any [], .str [], .bool false, .int .i64 ↑i]])), (lm, .row true 3 (ds.map encAc))]) (l.length) ?_ ?_
  intro Ng
  replace hA := And.intro hA (And.intro e0_0 (And.intro e0_1 (And.intro e0_5 (And.intro h0_9 (And.intro h0_7 (And.intro h0_8 (d0)))))))
  refine ⟨_, _, wkE_id, (by repeat' first | exact rowsok_nil | refine rowsok_cons ?_ ?_ | exact rowok_ghost (by assumption) | exact rowA | ((try simp only [cast0]) <;> exact rowA)), 0, (by first | omega | rfl | assumption | (first | exact lv_eq | ((try simp only [cast0]) <;> exact lv_eq) | (simp (maxDischargeDepth := 8) only [go_sem, hNE, hA, cast0, List.length_append, List.length_cons, List.length_nil, Nat.zero_add]; first | done | rfl))), (by (repeat' apply And.intro) <;> exact lv_eq), (by (repeat' apply And.intro) <;> first | exact lv_eq | ((try simp only [cast0]) <;> exact lv_eq) | (simp (maxDischargeDepth := 8) only [go_sem, hNE, hA, cast0, List.length_append, List.length_cons, List.length_nil, Nat.zero_add]; first | done | rfl)), rfl⟩
  rintro k2 E2 H2 hfr2 ⟨i, hi, ⟨d2_0, d2_1⟩, h2_16, rfl⟩
  have e2_0 := hfr2 0 rfl; have e2_5 := hfr2 5 rfl; have e2_8 := hfr2 8 rfl; have e2_10 := hfr2 10 rfl
  simp (maxDischargeDepth := 8) only [go_sem, e0_0, e0_1, e0_5, h0_9, h0_7, h0_8, d0, cast0, hNE] at e2_0 e2_5 e2_8 e2_10
  clear hfr2
  have d2 := And.intro d2_0 (d2_1)
  by_cases hil : i < l.length
  · have c1 := hcp i
    have c2 := hcp (i + 1)
    have c3 := hrd i hil
    have c4 := hbs i hil
    (replace hA := And.intro e0_0 (And.intro e0_1 (And.intro e0_5 (And.intro h0_9 (And.intro h0_7 (And.intro h0_8 (And.intro d0 (And.intro e2_0 (And.intro e2_5 (And.intro e2_8 (And.intro e2_10 (And.intro h2_16 (d2)))))))))))); replace hP := And.intro c1 (And.intro c2 (And.intro c3 (And.intro c4 (True.intro)))); repeat' first | ((with_reducible apply gt_call); first | refine ce_callS ?_ | refine ce_callO ?_) | ((with_reducible apply gt_alloc); (refine ce_alloc ?_; intro la ha hn1; replace hNE := And.intro hNE hn1)) | ((with_reducible apply gt_box); (refine ce_boxL ?_; intro la ha hn1; replace hNE := And.intro hNE hn1)) | ((with_reducible apply gt_store); refine ce_store ?_) | ((with_reducible apply gt_g); first | refine ce_gval ?_ | refine ce_gno ?_ | refine ce_gskip ?_ | refine ce_gval2 ?_ | refine ce_gno2 ?_) | ((with_reducible refine gt_appT app_44 ?_); first | refine ce_appendE app_44 c_57 ?_ | (refine ce_appendL app_44 c_57 ?_; intro la ha hn1; replace hNE := And.intro hNE hn1) | refine ce_append app_44 c_57 ?_ ?_ | (refine ce_appendB app_44 c_57 ?_; intro la ha hn1; replace hNE := And.intro hNE hn1)) | ((with_reducible apply gd_g); first | refine de_gval ?_ | refine de_gno ?_ | refine de_gskip ?_ | refine de_gval2 ?_ | refine de_gno2 ?_) | ((with_reducible refine gd_appT app_44 ?_); first | (refine de_appendU app_44 c_57 ?_; intro la ha hn1; replace hNE := And.intro hNE hn1) | refine de_append app_44 c_57 ?_ ?_ | (refine de_appendL app_44 c_57 ?_; intro la ha hn1; replace hNE := And.intro hNE hn1) | (refine de_appendB app_44 c_57 ?_; intro la ha hn1; replace hNE := And.intro hNE hn1)) | ((with_reducible apply gt_cond); first | refine c_cond ?_ ?_ | refine c_condB ?_ ?_) | ((with_reducible apply gt_any); refine ce_val ?_) | ((with_reducible apply gd_any); refine de_val ?_) | ((with_reducible apply gt_drw); first | refine ce_drwA ?_ | refine ce_drwE ?_ | refine ce_drwK ?_ | refine ce_drwZ ?_) | with_reducible first | apply k_seq | apply t_seq | apply t_reg | apply t_nil | apply t_skip | apply t_ret | apply t_exit | apply k_seq_exit | apply k_seq_ret | apply k_blk_exit | refine k_blk_other (by decide) ?_ | apply k_blk_ret | apply k_blk | apply k_invX_ret | apply k_invX_exit | apply t_block | apply m_nil | (with_reducible intro hc; with_reducible exact Bool.noConfusion hc) | (with_reducible intro hc; replace hC := And.intro hC hc))
    refine k_invX (k2 - 1) (by omega) ?_
    intro Ng
    replace hA := And.intro hA (And.intro e0_0 (And.intro e0_1 (And.intro e0_5 (And.intro h0_9 (And.intro h0_7 (And.intro h0_8 (And.intro d0 (And.intro e2_0 (And.intro e2_5 (And.intro e2_8 (And.intro e2_10 (And.intro h2_16 (d2)))))))))))))
    refine ⟨_, _, wkE_id, (by repeat' first | exact rowsok_nil | refine rowsok_cons ?_ ?_ | exact rowok_ghost (by assumption) | exact rowA), i + 1, (by first | omega | (simp only [List.length_append, List.length_cons, List.length_nil, List.length_drop, List.length_take, List.length_map]; omega)), (by (repeat' apply And.intro) <;> exact lv_eq), (by (repeat' apply And.intro) <;> exact lv_eq), rfl⟩
  · have hil2 : i = l.length := by omega
    subst hil2
    have c1 := hcp l.length
    have c2 := hcp (l.length + 1)
    (replace hA := And.intro e0_0 (And.intro e0_1 (And.intro e0_5 (And.intro h0_9 (And.intro h0_7 (And.intro h0_8 (And.intro d0 (And.intro e2_0 (And.intro e2_5 (And.intro e2_8 (And.intro e2_10 (And.intro h2_16 (d2)))))))))))); replace hP := And.intro c1 (And.intro c2 (And.intro he1 (And.intro he2 (And.intro h48 (True.intro))))); repeat' first | ((with_reducible apply gt_call); first | refine ce_callS ?_ | refine ce_callO ?_) | ((with_reducible apply gt_alloc); (refine ce_alloc ?_; intro la ha hn1; replace hNE := And.intro hNE hn1)) | ((with_reducible apply gt_box); (refine ce_boxL ?_; intro la ha hn1; replace hNE := And.intro hNE hn1)) | ((with_reducible apply gt_store); refine ce_store ?_) | ((with_reducible apply gt_g); first | refine ce_gval ?_ | refine ce_gno ?_ | refine ce_gskip ?_ | refine ce_gval2 ?_ | refine ce_gno2 ?_) | ((with_reducible refine gt_appT app_44 ?_); first | refine ce_appendE app_44 c_57 ?_ | (refine ce_appendL app_44 c_57 ?_; intro la ha hn1; replace hNE := And.intro hNE hn1) | refine ce_append app_44 c_57 ?_ ?_ | (refine ce_appendB app_44 c_57 ?_; intro la ha hn1; replace hNE := And.intro hNE hn1)) | ((with_reducible apply gd_g); first | refine de_gval ?_ | refine de_gno ?_ | refine de_gskip ?_ | refine de_gval2 ?_ | refine de_gno2 ?_) | ((with_reducible refine gd_appT app_44 ?_); first | (refine de_appendU app_44 c_57 ?_; intro la ha hn1; replace hNE := And.intro hNE hn1) | refine de_append app_44 c_57 ?_ ?_ | (refine de_appendL app_44 c_57 ?_; intro la ha hn1; replace hNE := And.intro hNE hn1) | (refine de_appendB app_44 c_57 ?_; intro la ha hn1; replace hNE := And.intro hNE hn1)) | ((with_reducible apply gt_cond); first | refine c_cond ?_ ?_ | refine c_condB ?_ ?_) | ((with_reducible apply gt_any); refine ce_val ?_) | ((with_reducible apply gd_any); refine de_val ?_) | ((with_reducible apply gt_drw); first | refine ce_drwA ?_ | refine ce_drwE ?_ | refine ce_drwK ?_ | refine ce_drwZ ?_) | with_reducible first | apply k_seq | apply t_seq | apply t_reg | apply t_nil | apply t_skip | apply t_ret | apply t_exit | apply k_seq_exit | apply k_seq_ret | apply k_blk_exit | refine k_blk_other (by decide) ?_ | apply k_blk_ret | apply k_blk | apply k_invX_ret | apply k_invX_exit | apply t_block | apply m_nil | (with_reducible intro hc; with_reducible exact Bool.noConfusion hc) | (with_reducible intro hc; replace hC := And.intro hC hc))
    all_goals ((first | refine cpendE rs10 ?_ | refine cpendNE rs10 ?_); (exact fin_eq))
end Go.Proofs.Ythdgdngdfijfhaa
namespace Go.Proofs.Ythdgdngdfijfhaa
open Go.ChangeShapes Go.WideShapes Go.ChangeAt Go.RowKit Go.Deep Go.Proofs
set_option linter.unusedVariables false
set_option linter.unusedSimpArgs false
theorem u8b {n : Int} (h : (Lit.int .u8 n).wf = true) : ∃ m : Nat, n = (m : Int) ∧ m < 256 := by
  have h2 : IntKind.u8.min ≤ n ∧ n ≤ IntKind.u8.max := by simpa [Lit.wf] using h
  have h3 : IntKind.u8.min = 0 := by decide
  have h4 : IntKind.u8.max = 255 := by decide
  exact ⟨n.toNat, by omega, by omega⟩
def encN8s (n : {n : Nat // n < 256}) : PV := encN8 n.1
theorem tvU8 {l : List PV} (h : TV (.list false (.int .u8)) l) : ∃ xs : List Nat, l = [.list .any (xs.map encN8)] ∧ ∀ x ∈ xs, x < 256 := by
  obtain ⟨xs, e, _⟩ : ∃ xs : List {n : Nat // n < 256}, l = [.list .any (xs.map encN8s)] ∧ xs.length ≤ maxLen :=
    TV_list (r := false) (fun x h1 _ h3 => by
      rw [h3 rfl] at h1
      obtain ⟨s, e, hw⟩ := h1
      obtain ⟨m, rfl, hm⟩ := u8b hw
      exact ⟨⟨m, hm⟩, by simpa [encN8s, encN8] using e⟩) h
  refine ⟨xs.map (·.1), by rw [e, List.map_map]; rfl, fun x hx => ?_⟩
  obtain ⟨y, _, rfl⟩ := List.mem_map.1 hx
  exact y.2
theorem okT22 : okT Try.prog 9 22 (.list false .str) = true := by kernel_rfl
theorem okT95 : okT Try.prog 9 95 (.list false (.int .u8)) = true := by kernel_rfl
section
variable {H : Type} {enc : TypeId × Value → H} {w : World} {r : Reach} {b0 : Nat} {base : Nat} {sp : Nat → Bool} {held : Bool} {v : Value} {d : DataW H} {ps : List MemPlace}
set_option maxRecDepth 100000 in
theorem arg22 (hv : Value.okWide Try.prog w r b0 22 v) (h : DataW.Trod enc Try.prog w base sp held 22 v d ps) : ∃ l : List (List UInt8), VR w noO v (.list .any (l.map encS)) := by
  obtain ⟨q, hT, hq⟩ := arg_slice (T := .list false .str) 9 u_22 okT22 hv h
  obtain ⟨l, e, _⟩ := tvStr hT
  obtain rfl : q = _ := by simpa using e
  exact ⟨l, hq⟩
set_option maxRecDepth 100000 in
theorem arg95 (hv : Value.okWide Try.prog w r b0 95 v) (h : DataW.Trod enc Try.prog w base sp held 95 v d ps) : ∃ l : List Nat, (∀ n ∈ l, n < 256) ∧ VR w noO v (.list .any (l.map encN8)) := by
  obtain ⟨q, hT, hq⟩ := arg_slice (T := .list false (.int .u8)) 9 u_95 okT95 hv h
  obtain ⟨l, e, hl⟩ := tvU8 hT
  obtain rfl : q = _ := by simpa using e
  exact ⟨l, hl, hq⟩
end
end Go.Proofs.Ythdgdngdfijfhaa
namespace Go.Proofs.Ythdgdngdfijfhaa
open Go.ChangeShapes Go.WideShapes Go.ChangeAt Go.RowKit Go.Proofs
set_option linter.unusedVariables false
set_option maxRecDepth 100000 in
theorem filesOthers_lifted (os : Os) (started : os.Started) (H : Type) (enc : TypeId × Value → H) :
    ReturnsInHanded {} Try.checked os 10 .any (Rows.filesOthersSpec.pre6 enc Try.prog Try.f10 Rows.filesOthersRow.domain false) (Rows.filesOthersSpec.post enc Try.prog Try.f10 false true false false) := by
  refine returnsInHanded_of_change_sized (C := Try.checked) ownKn started (by kernel_rfl) Try.func10
    (ChangeSpec.witness6 (enc := enc) (C := Try.checked) false ⟨#[], #[.slice none 0 0, .slice none 0 0, .agg #[.int .u16 0, .int .u16 0, .int .u16 0]], []⟩ 8 (by kernel_rfl) (by kernel_rfl) (by kernel_rfl) (by kernel_rfl)) ?_
  intro W base args ds gs before hval0 hW hcnd hsz0 _
  have hval : ∀ (j : Nat) t v, Try.f10.params[j]? = some t → args[j]? = some v → Value.okWide Try.prog W .any base t v := hval0
  have hW' := hW
  obtain ⟨p, q, hA0, hV, rfl, hfz, hnd⟩ := hW
  have hA : DataW.TrodAll enc Try.prog W 0 (fun _ => true) true Try.f10.params.toList args.toList ds p := hA0
  rw [Try.params10] at hA hval
  obtain ⟨v0, vs0, d0, ds0, p0, q0, hargs, rfl, rfl, h0, r0⟩ := trodAll_cons hA
  obtain ⟨v1, vs1, d1, ds1, p1, q1, rfl, rfl, rfl, h1, r1⟩ := trodAll_cons r0
  obtain ⟨v2, vs2, d2, ds2, p2, q2, rfl, rfl, rfl, h2, r2⟩ := trodAll_cons r1
  obtain ⟨rfl, rfl, rfl⟩ := trodAll_nil r2
  obtain rfl : args = #[v0, v1, v2] := by cases args; simp_all
  obtain ⟨rfl, rfl⟩ := trodVars_none hV
  obtain ⟨l, w0⟩ := arg22 (hval 0 22 v0 rfl rfl) h0
  have k0 := h0
  have lt0 : ∀ x ∈ p0, x.block < W.heap.size := by obtain ⟨m, hm⟩ := k0; exact DataW.trod_lt m _ _ _ hm
  obtain ⟨ns, hns, w1⟩ := arg95 (hval 1 95 v1 rfl rfl) h1
  have k1 := h1
  have lt1 : ∀ x ∈ p1, x.block < W.heap.size := by obtain ⟨m, hm⟩ := k1; exact DataW.trod_lt m _ _ _ hm
  obtain ⟨y, hy, w2⟩ := arg90 (hval 2 90 v2 rfl rfl) h2
  have k2 := h2
  have lt2 : ∀ x ∈ p2, x.block < W.heap.size := by obtain ⟨m, hm⟩ := k2; exact DataW.trod_lt m _ _ _ hm
  clear hA0 hval0 hsz0
  refine ((law10 l ns hns y hy).law (.mk3 w0 w1 w2)).mono fun e W' ⟨he, bel⟩ => ?_
  subst he
  exact ⟨_, rfl, _, _, _, [], _, [], hW', trodAll_mk1 (shut_bool u_4 _), (trodAll_cons_mk (Below.trod laidOut (by kernel_rfl) (of_decide_eq_true (by kernel_rfl)) k0 bel lt0) (trodAll_cons_mk (Below.trod laidOut (by kernel_rfl) (of_decide_eq_true (by kernel_rfl)) k1 bel lt1) (trodAll_cons_mk (Below.trod laidOut (by kernel_rfl) (of_decide_eq_true (by kernel_rfl)) k2 bel lt2) trodAll_mk0))), rfl, bel.frame _, fun h => by cases h⟩
theorem filesOthers_holds : Rows.FilesOthersSaid :=
  OpenClaim.holds_of_wide 10 Try.f10 rfl rfl rfl rfl rfl rfl rfl ⟨rfl, rfl, rfl, rfl, rfl⟩ rfl rfl rfl rfl rfl (by kernel_rfl) Try.func10 (by kernel_rfl)
    (of_decide_eq_true (by kernel_rfl)) (by unfold Func.isWrapper; first | (rw [if_pos (by decide +kernel)]; kernel_rfl) | (rw [if_neg (by decide +kernel)]; exact ⟨rfl, rfl⟩))
    (fun os started H enc _ => filesOthers_lifted os started H enc)
#print axioms filesOthers_holds
end Go.Proofs.Ythdgdngdfijfhaa
