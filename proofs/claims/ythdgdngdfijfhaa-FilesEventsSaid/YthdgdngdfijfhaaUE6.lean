/- Part 6 of the proof: what the claim needs of the framework, the contracts of functions, and the laws. No conditions. -/
import Derived.Test.YthdgdngdfijfhaaUE5
import Derived.Test.YthdgdngdfijfhaaRows
namespace Go.Proofs.Ythdgdngdfijfhaa
open Go.RowKit Go.Proofs
set_option linter.unusedVariables false
set_option linter.unusedSimpArgs false
attribute [local irreducible] PPure CallN Tops TopsDm T
theorem hp1_sub {H : Hp} {l1 : Lab} {c1 : Chunk} (h : H l1 = some c1) : ∀ l c, hp [(l1, c1)] l = some c → H l = some c := fun l c e => by
  rw [hp_cons] at e
  split at e
  · rename_i e2; cases e; rw [e2]; exact h
  · cases e
theorem hp2_sub {H : Hp} {l1 l2 : Lab} {c1 c2 : Chunk} (h1 : H l1 = some c1) (h2 : H l2 = some c2) : ∀ l c, hp [(l1, c1), (l2, c2)] l = some c → H l = some c := fun l c e => by
  rw [hp_cons] at e
  split at e
  · rename_i e2; cases e; rw [e2]; exact h1
  · exact hp1_sub h2 l c e
theorem take_row {α : Type} (f : α → PV) (xs : List α) (ys : List PV) : List.take xs.length (xs.map f ++ ys) = xs.map f := by
  have := List.take_left (l₁ := xs.map f) (l₂ := ys)
  rwa [List.length_map] at this
theorem len_row {α : Type} (f : α → PV) (xs : List α) (ys : List PV) : (xs.length ≤ (xs.map f ++ ys).length) = True := eq_true (by simp)
set_option maxHeartbeats 8000000 in
theorem p32s (u : Un) (a : Ac) (h : Vu u) (hac : u.access = 0) (hk0 : 0 ≤ a.kind) (hk5 : a.kind ≤ 5) : PPure Try.prog 32 [encU u, encAc a] (.tup [encU (doneF u a).1, encAn (doneF u a).2]) := by
  have hv := h
  have ht : u.there = [] := by
    obtain ⟨_, _, _, _, ht, _⟩ | ⟨h1, _⟩ | ⟨h1, _⟩ := h
    · exact ht
    · omega
    · omega
  have hl : u.recs.length ≤ 60 := by
    obtain ⟨_, _, hl, _⟩ | ⟨h1, _⟩ | ⟨h1, _⟩ := h
    · exact hl
    · omega
    · omega
  have hg := fun l1 => g73k u a hv hac hk0 hk5 l1
  obtain ⟨q, hq⟩ : ∃ q, doneF u a = q := ⟨_, rfl⟩
  rw [hq] at hg ⊢
  simp only [encU, encAc]
  (refine ppure_of_T ok32 (by simp only [List.length_cons, List.length_nil]; decide) ?_; refine t_seq ?_)
  have hNE := True.intro; have hC := True.intro; have hA := True.intro; have hP := True.intro
  (replace hA := True.intro; replace hP := And.intro @p72' (True.intro); repeat' first | ((with_reducible apply gt_call); first | refine ce_callS ?_ | refine ce_callO ?_) | ((with_reducible apply gt_alloc); (refine ce_alloc ?_; intro la ha hn1; replace hNE := And.intro hNE hn1)) | ((with_reducible apply gt_box); (refine ce_boxL ?_; intro la ha hn1; replace hNE := And.intro hNE hn1)) | ((with_reducible apply gt_store); refine ce_store ?_) | ((with_reducible apply gd_call); first | refine de_callS ?_ | refine de_callO ?_) | ((with_reducible apply gd_store); first | refine de_store ?_ | refine de_storeZ ?_) | ((with_reducible apply gt_cond); first | refine c_cond ?_ ?_ | refine c_condB ?_ ?_) | ((with_reducible apply gt_any); refine ce_val ?_) | ((with_reducible apply gd_any); refine de_val ?_) | ((with_reducible apply gt_drw); first | refine ce_drwA ?_ | refine ce_drwE ?_ | refine ce_drwK ?_ | refine ce_drwZ ?_) | with_reducible first | apply k_seq | apply t_seq | apply t_reg | apply t_nil | apply t_skip | apply t_ret | apply t_exit | apply k_seq_exit | apply k_seq_ret | apply k_blk_exit | refine k_blk_other (by decide) ?_ | apply k_blk_ret | apply k_blk | apply t_block | apply m_nil | (with_reducible intro hc; with_reducible exact Bool.noConfusion hc) | (with_reducible intro hc; replace hC := And.intro hC hc))
  rename_i lu au nu lx ax nx l4 a4 n4 c1
  obtain ⟨l5, h5⟩ : ∃ l, l = la := ⟨la, rfl⟩
  subst h5
  (first | ((with_reducible apply te_callG); (focus (simp (maxDischargeDepth := 8) only [go_sem, hNE]; first | done | exact rfl)); (focus (simp (maxDischargeDepth := 8) only [go_sem, hNE]; first | done | exact rfl))) | ((with_reducible apply te_callGB); (focus (simp (maxDischargeDepth := 8) only [go_sem, hNE]; first | done | exact rfl)); (focus (simp (maxDischargeDepth := 8) only [go_sem, hNE]; first | done | exact rfl))) | ((with_reducible apply me_callG); (focus (simp (maxDischargeDepth := 8) only [go_sem, hNE]; first | done | exact rfl)); (focus (simp (maxDischargeDepth := 8) only [go_sem, hNE]; first | done | exact rfl)); (focus (simp only [List.all_cons, List.all_nil, allocB, PV.isDef, go_sem, hNE]; first | done | exact rfl))) | ((with_reducible apply me_callGB); (focus (simp (maxDischargeDepth := 8) only [go_sem, hNE]; first | done | exact rfl)); (focus (simp (maxDischargeDepth := 8) only [go_sem, hNE]; first | done | exact rfl)); (focus (simp only [List.all_cons, List.all_nil, allocB, PV.isDef, go_sem, hNE]; first | done | exact rfl)))); refine g14b u ht (by omega) _ ?_
  intro l1 hl1
  replace hNE := And.intro hNE (fresh_ne hl1)
  simp only [encO]
  (replace hA := True.intro; replace hP := True.intro; repeat' first | ((with_reducible apply gt_call); first | refine ce_callS ?_ | refine ce_callO ?_) | ((with_reducible apply gt_alloc); (refine ce_alloc ?_; intro la ha hn1; replace hNE := And.intro hNE hn1)) | ((with_reducible apply gt_box); refine ce_box ?_) | ((with_reducible apply gt_store); refine ce_store ?_) | ((with_reducible apply gd_call); first | refine de_callS ?_ | refine de_callO ?_) | ((with_reducible apply gd_store); first | refine de_store ?_ | refine de_storeZ ?_) | ((with_reducible apply gt_cond); first | refine c_cond ?_ ?_ | refine c_condB ?_ ?_) | ((with_reducible apply gt_any); refine ce_val ?_) | ((with_reducible apply gd_any); refine de_val ?_) | ((with_reducible apply gt_drw); first | refine ce_drwA ?_ | refine ce_drwE ?_ | refine ce_drwK ?_ | refine ce_drwZ ?_) | with_reducible first | apply k_seq | apply t_seq | apply t_reg | apply t_nil | apply t_skip | apply t_ret | apply t_exit | apply k_seq_exit | apply k_seq_ret | apply k_blk_exit | refine k_blk_other (by decide) ?_ | apply k_blk_ret | apply k_blk | apply t_block | apply m_nil | (with_reducible intro hc; with_reducible exact Bool.noConfusion hc) | (with_reducible intro hc; replace hC := And.intro hC hc))
  (first | ((with_reducible apply te_callG); (focus (simp (maxDischargeDepth := 8) only [go_sem, hNE]; first | done | exact rfl)); (focus (simp (maxDischargeDepth := 8) only [go_sem, hNE]; first | done | exact rfl))) | ((with_reducible apply te_callGB); (focus (simp (maxDischargeDepth := 8) only [go_sem, hNE]; first | done | exact rfl)); (focus (simp (maxDischargeDepth := 8) only [go_sem, hNE]; first | done | exact rfl))) | ((with_reducible apply me_callG); (focus (simp (maxDischargeDepth := 8) only [go_sem, hNE]; first | done | exact rfl)); (focus (simp (maxDischargeDepth := 8) only [go_sem, hNE]; first | done | exact rfl)); (focus (simp only [List.all_cons, List.all_nil, allocB, PV.isDef, go_sem, hNE]; first | done | exact rfl))) | ((with_reducible apply me_callGB); (focus (simp (maxDischargeDepth := 8) only [go_sem, hNE]; first | done | exact rfl)); (focus (simp (maxDischargeDepth := 8) only [go_sem, hNE]; first | done | exact rfl)); (focus (simp only [List.all_cons, List.all_nil, allocB, PV.isDef, go_sem, hNE]; first | done | exact rfl)))); refine CallsG.keep (hp [(l1, .row true 1 (u.recs.map encS))]) (hg l1) (hp1_sub (by exact ev_eq)) ?_
  intro r H' H2 ⟨v1, v2, e0, w1, w2⟩ k1 k2
  subst e0
  have f4 := k2 l4 7 _ (by exact ev_eq) (by simp (maxDischargeDepth := 8) only [go_sem, hNE])
  have f5 := k2 l5 3 _ (by exact ev_eq) (by simp (maxDischargeDepth := 8) only [go_sem, hNE])
  have g45 : (l4 = l5) = False := by simp (maxDischargeDepth := 8) only [go_sem, hNE]
  have g54 : (l5 = l4) = False := eq_false (fun e => of_eq_false g45 e.symm)
  simp only [encO, encAn]
  rcases w1 with ⟨r1, rfl⟩ | ⟨lr, ys, rfl, r1⟩
  · have r3 : q.1.recs = [] := by simpa using r1
    rcases w2 with ⟨r2, rfl⟩ | ⟨lt, zs, rfl, r2⟩
    · have r4 : q.1.there = [] := by simpa using r2
      (replace hA := And.intro f4.1 (And.intro f5.1 (And.intro g45 (g54))); replace hP := True.intro; repeat' first | ((with_reducible apply gt_call); first | refine ce_callS ?_ | refine ce_callO ?_) | ((with_reducible apply gt_alloc); (refine ce_alloc ?_; intro la ha hn1; replace hNE := And.intro hNE hn1)) | ((with_reducible apply gt_box); refine ce_box ?_) | ((with_reducible apply gt_store); refine ce_store ?_) | ((with_reducible apply gd_call); first | refine de_callS ?_ | refine de_callO ?_) | ((with_reducible apply gd_store); first | refine de_store ?_ | refine de_storeZ ?_) | ((with_reducible apply gt_cond); first | refine c_cond ?_ ?_ | refine c_condB ?_ ?_) | ((with_reducible apply gt_any); refine ce_val ?_) | ((with_reducible apply gd_any); refine de_val ?_) | ((with_reducible apply gt_drw); first | refine ce_drwA ?_ | refine ce_drwE ?_ | refine ce_drwK ?_ | refine ce_drwZ ?_) | with_reducible first | apply k_seq | apply t_seq | apply t_reg | apply t_nil | apply t_skip | apply t_ret | apply t_exit | apply k_seq_exit | apply k_seq_ret | apply k_blk_exit | refine k_blk_other (by decide) ?_ | apply k_blk_ret | apply k_blk | apply t_block | apply m_nil | (with_reducible intro hc; with_reducible exact Bool.noConfusion hc) | (with_reducible intro hc; replace hC := And.intro hC hc))
      all_goals ((first | refine cpendE rs32 ?_ | refine cpendNE rs32 ?_); (have hA := And.intro hA (And.intro r3 (r4)); (try simp only [encU, encAn]) <;> exact fin_eq))
    · have m2 := k1 _ _ r2
      have d1 : (lt = l4) = False := eq_false (fun e => by rw [e, f4.2] at r2; cases r2)
      have d2 : (lt = l5) = False := eq_false (fun e => by rw [e, f5.2] at r2; cases r2)
      have m4 := take_row encB q.1.there zs
      have m6 := len_row encB q.1.there zs
      (replace hA := And.intro f4.1 (And.intro f5.1 (And.intro g45 (And.intro g54 (And.intro m2 (And.intro d1 (And.intro d2 (And.intro m4 (m6)))))))); replace hP := True.intro; repeat' first | ((with_reducible apply gt_call); first | refine ce_callS ?_ | refine ce_callO ?_) | ((with_reducible apply gt_alloc); (refine ce_alloc ?_; intro la ha hn1; replace hNE := And.intro hNE hn1)) | ((with_reducible apply gt_box); refine ce_box ?_) | ((with_reducible apply gt_store); refine ce_store ?_) | ((with_reducible apply gd_call); first | refine de_callS ?_ | refine de_callO ?_) | ((with_reducible apply gd_store); first | refine de_store ?_ | refine de_storeZ ?_) | ((with_reducible apply gt_cond); first | refine c_cond ?_ ?_ | refine c_condB ?_ ?_) | ((with_reducible apply gt_any); refine ce_val ?_) | ((with_reducible apply gd_any); refine de_val ?_) | ((with_reducible apply gt_drw); first | refine ce_drwA ?_ | refine ce_drwE ?_ | refine ce_drwK ?_ | refine ce_drwZ ?_) | with_reducible first | apply k_seq | apply t_seq | apply t_reg | apply t_nil | apply t_skip | apply t_ret | apply t_exit | apply k_seq_exit | apply k_seq_ret | apply k_blk_exit | refine k_blk_other (by decide) ?_ | apply k_blk_ret | apply k_blk | apply t_block | apply m_nil | (with_reducible intro hc; with_reducible exact Bool.noConfusion hc) | (with_reducible intro hc; replace hC := And.intro hC hc))
      all_goals ((first | refine cpendE rs32 ?_ | refine cpendNE rs32 ?_); (have hA := And.intro hA r3; (try simp only [encU, encAn]) <;> exact fin_eq))
  · have m1 := k1 _ _ r1
    have d3 : (lr = l4) = False := eq_false (fun e => by rw [e, f4.2] at r1; cases r1)
    have d4 : (lr = l5) = False := eq_false (fun e => by rw [e, f5.2] at r1; cases r1)
    have m3 := take_row encS q.1.recs ys
    have m5 := len_row encS q.1.recs ys
    rcases w2 with ⟨r2, rfl⟩ | ⟨lt, zs, rfl, r2⟩
    · have r4 : q.1.there = [] := by simpa using r2
      (replace hA := And.intro f4.1 (And.intro f5.1 (And.intro g45 (And.intro g54 (And.intro m1 (And.intro d3 (And.intro d4 (And.intro m3 (m5)))))))); replace hP := True.intro; repeat' first | ((with_reducible apply gt_call); first | refine ce_callS ?_ | refine ce_callO ?_) | ((with_reducible apply gt_alloc); (refine ce_alloc ?_; intro la ha hn1; replace hNE := And.intro hNE hn1)) | ((with_reducible apply gt_box); refine ce_box ?_) | ((with_reducible apply gt_store); refine ce_store ?_) | ((with_reducible apply gd_call); first | refine de_callS ?_ | refine de_callO ?_) | ((with_reducible apply gd_store); first | refine de_store ?_ | refine de_storeZ ?_) | ((with_reducible apply gt_cond); first | refine c_cond ?_ ?_ | refine c_condB ?_ ?_) | ((with_reducible apply gt_any); refine ce_val ?_) | ((with_reducible apply gd_any); refine de_val ?_) | ((with_reducible apply gt_drw); first | refine ce_drwA ?_ | refine ce_drwE ?_ | refine ce_drwK ?_ | refine ce_drwZ ?_) | with_reducible first | apply k_seq | apply t_seq | apply t_reg | apply t_nil | apply t_skip | apply t_ret | apply t_exit | apply k_seq_exit | apply k_seq_ret | apply k_blk_exit | refine k_blk_other (by decide) ?_ | apply k_blk_ret | apply k_blk | apply t_block | apply m_nil | (with_reducible intro hc; with_reducible exact Bool.noConfusion hc) | (with_reducible intro hc; replace hC := And.intro hC hc))
      all_goals ((first | refine cpendE rs32 ?_ | refine cpendNE rs32 ?_); (have hA := And.intro hA r4; (try simp only [encU, encAn]) <;> exact fin_eq))
    · have m2 := k1 _ _ r2
      have d1 : (lt = l4) = False := eq_false (fun e => by rw [e, f4.2] at r2; cases r2)
      have d2 : (lt = l5) = False := eq_false (fun e => by rw [e, f5.2] at r2; cases r2)
      have m4 := take_row encB q.1.there zs
      have m6 := len_row encB q.1.there zs
      (replace hA := And.intro f4.1 (And.intro f5.1 (And.intro g45 (And.intro g54 (And.intro m1 (And.intro m2 (And.intro d1 (And.intro d2 (And.intro d3 (And.intro d4 (And.intro m3 (And.intro m4 (And.intro m5 (m6))))))))))))); replace hP := True.intro; repeat' first | ((with_reducible apply gt_call); first | refine ce_callS ?_ | refine ce_callO ?_) | ((with_reducible apply gt_alloc); (refine ce_alloc ?_; intro la ha hn1; replace hNE := And.intro hNE hn1)) | ((with_reducible apply gt_box); refine ce_box ?_) | ((with_reducible apply gt_store); refine ce_store ?_) | ((with_reducible apply gd_call); first | refine de_callS ?_ | refine de_callO ?_) | ((with_reducible apply gd_store); first | refine de_store ?_ | refine de_storeZ ?_) | ((with_reducible apply gt_cond); first | refine c_cond ?_ ?_ | refine c_condB ?_ ?_) | ((with_reducible apply gt_any); refine ce_val ?_) | ((with_reducible apply gd_any); refine de_val ?_) | ((with_reducible apply gt_drw); first | refine ce_drwA ?_ | refine ce_drwE ?_ | refine ce_drwK ?_ | refine ce_drwZ ?_) | with_reducible first | apply k_seq | apply t_seq | apply t_reg | apply t_nil | apply t_skip | apply t_ret | apply t_exit | apply k_seq_exit | apply k_seq_ret | apply k_blk_exit | refine k_blk_other (by decide) ?_ | apply k_blk_ret | apply k_blk | apply t_block | apply m_nil | (with_reducible intro hc; with_reducible exact Bool.noConfusion hc) | (with_reducible intro hc; replace hC := And.intro hC hc))
      all_goals ((first | refine cpendE rs32 ?_ | refine cpendNE rs32 ?_); ((try simp only [encU, encAn]) <;> exact fin_eq))
set_option maxHeartbeats 8000000 in
theorem p32e (u : Un) (a : Ac) (h : Vu u) (hac : u.access = 1) (ht : u.there = []) (hk0 : 0 ≤ a.kind) (hk5 : a.kind ≤ 5) (hbl : a.bytes.length ≤ 4000) : PPure Try.prog 32 [encU u, encAc a] (.tup [encU (doneF u a).1, encAn (doneF u a).2]) := by
  have hl : u.recs.length ≤ 60 := by
    obtain ⟨h1, _⟩ | ⟨_, _, _, hl, _⟩ | ⟨h1, _⟩ := h
    · omega
    · exact hl
    · omega
  have hg := fun l1 => g74ek u a h hac ht hk0 hk5 hbl l1
  obtain ⟨q, hq⟩ : ∃ q, doneF u a = q := ⟨_, rfl⟩
  rw [hq] at hg ⊢
  simp only [encU, encAc]
  (refine ppure_of_T ok32 (by simp only [List.length_cons, List.length_nil]; decide) ?_; refine t_seq ?_)
  have hNE := True.intro; have hC := True.intro; have hA := True.intro; have hP := True.intro
  (replace hA := True.intro; replace hP := And.intro @p72' (True.intro); repeat' first | ((with_reducible apply gt_call); first | refine ce_callS ?_ | refine ce_callO ?_) | ((with_reducible apply gt_alloc); (refine ce_alloc ?_; intro la ha hn1; replace hNE := And.intro hNE hn1)) | ((with_reducible apply gt_box); (refine ce_boxL ?_; intro la ha hn1; replace hNE := And.intro hNE hn1)) | ((with_reducible apply gt_store); refine ce_store ?_) | ((with_reducible apply gd_call); first | refine de_callS ?_ | refine de_callO ?_) | ((with_reducible apply gd_store); first | refine de_store ?_ | refine de_storeZ ?_) | ((with_reducible apply gt_cond); first | refine c_cond ?_ ?_ | refine c_condB ?_ ?_) | ((with_reducible apply gt_any); refine ce_val ?_) | ((with_reducible apply gd_any); refine de_val ?_) | ((with_reducible apply gt_drw); first | refine ce_drwA ?_ | refine ce_drwE ?_ | refine ce_drwK ?_ | refine ce_drwZ ?_) | with_reducible first | apply k_seq | apply t_seq | apply t_reg | apply t_nil | apply t_skip | apply t_ret | apply t_exit | apply k_seq_exit | apply k_seq_ret | apply k_blk_exit | refine k_blk_other (by decide) ?_ | apply k_blk_ret | apply k_blk | apply t_block | apply m_nil | (with_reducible intro hc; with_reducible exact Bool.noConfusion hc) | (with_reducible intro hc; replace hC := And.intro hC hc))
  rename_i lu au nu lx ax nx l4 a4 n4 c1
  obtain ⟨l5, h5⟩ : ∃ l, l = la := ⟨la, rfl⟩
  subst h5
  (first | ((with_reducible apply te_callG); (focus (simp (maxDischargeDepth := 8) only [go_sem, hNE]; first | done | exact rfl)); (focus (simp (maxDischargeDepth := 8) only [go_sem, hNE]; first | done | exact rfl))) | ((with_reducible apply te_callGB); (focus (simp (maxDischargeDepth := 8) only [go_sem, hNE]; first | done | exact rfl)); (focus (simp (maxDischargeDepth := 8) only [go_sem, hNE]; first | done | exact rfl))) | ((with_reducible apply me_callG); (focus (simp (maxDischargeDepth := 8) only [go_sem, hNE]; first | done | exact rfl)); (focus (simp (maxDischargeDepth := 8) only [go_sem, hNE]; first | done | exact rfl)); (focus (simp only [List.all_cons, List.all_nil, allocB, PV.isDef, go_sem, hNE]; first | done | exact rfl))) | ((with_reducible apply me_callGB); (focus (simp (maxDischargeDepth := 8) only [go_sem, hNE]; first | done | exact rfl)); (focus (simp (maxDischargeDepth := 8) only [go_sem, hNE]; first | done | exact rfl)); (focus (simp only [List.all_cons, List.all_nil, allocB, PV.isDef, go_sem, hNE]; first | done | exact rfl)))); refine g14b u ht (by omega) _ ?_
  intro l1 hl1
  replace hNE := And.intro hNE (fresh_ne hl1)
  simp only [encO]
  (replace hA := True.intro; replace hP := True.intro; repeat' first | ((with_reducible apply gt_call); first | refine ce_callS ?_ | refine ce_callO ?_) | ((with_reducible apply gt_alloc); (refine ce_alloc ?_; intro la ha hn1; replace hNE := And.intro hNE hn1)) | ((with_reducible apply gt_box); refine ce_box ?_) | ((with_reducible apply gt_store); refine ce_store ?_) | ((with_reducible apply gd_call); first | refine de_callS ?_ | refine de_callO ?_) | ((with_reducible apply gd_store); first | refine de_store ?_ | refine de_storeZ ?_) | ((with_reducible apply gt_cond); first | refine c_cond ?_ ?_ | refine c_condB ?_ ?_) | ((with_reducible apply gt_any); refine ce_val ?_) | ((with_reducible apply gd_any); refine de_val ?_) | ((with_reducible apply gt_drw); first | refine ce_drwA ?_ | refine ce_drwE ?_ | refine ce_drwK ?_ | refine ce_drwZ ?_) | with_reducible first | apply k_seq | apply t_seq | apply t_reg | apply t_nil | apply t_skip | apply t_ret | apply t_exit | apply k_seq_exit | apply k_seq_ret | apply k_blk_exit | refine k_blk_other (by decide) ?_ | apply k_blk_ret | apply k_blk | apply t_block | apply m_nil | (with_reducible intro hc; with_reducible exact Bool.noConfusion hc) | (with_reducible intro hc; replace hC := And.intro hC hc))
  (first | ((with_reducible apply te_callG); (focus (simp (maxDischargeDepth := 8) only [go_sem, hNE]; first | done | exact rfl)); (focus (simp (maxDischargeDepth := 8) only [go_sem, hNE]; first | done | exact rfl))) | ((with_reducible apply te_callGB); (focus (simp (maxDischargeDepth := 8) only [go_sem, hNE]; first | done | exact rfl)); (focus (simp (maxDischargeDepth := 8) only [go_sem, hNE]; first | done | exact rfl))) | ((with_reducible apply me_callG); (focus (simp (maxDischargeDepth := 8) only [go_sem, hNE]; first | done | exact rfl)); (focus (simp (maxDischargeDepth := 8) only [go_sem, hNE]; first | done | exact rfl)); (focus (simp only [List.all_cons, List.all_nil, allocB, PV.isDef, go_sem, hNE]; first | done | exact rfl))) | ((with_reducible apply me_callGB); (focus (simp (maxDischargeDepth := 8) only [go_sem, hNE]; first | done | exact rfl)); (focus (simp (maxDischargeDepth := 8) only [go_sem, hNE]; first | done | exact rfl)); (focus (simp only [List.all_cons, List.all_nil, allocB, PV.isDef, go_sem, hNE]; first | done | exact rfl)))); refine CallsG.keep (hp [(l1, .row true 1 (u.recs.map encS))]) (hg l1) (hp1_sub (by exact ev_eq)) ?_
  intro r H' H2 ⟨v1, v2, e0, w1, w2⟩ k1 k2
  subst e0
  have f4 := k2 l4 7 _ (by exact ev_eq) (by simp (maxDischargeDepth := 8) only [go_sem, hNE])
  have f5 := k2 l5 3 _ (by exact ev_eq) (by simp (maxDischargeDepth := 8) only [go_sem, hNE])
  have g45 : (l4 = l5) = False := by simp (maxDischargeDepth := 8) only [go_sem, hNE]
  have g54 : (l5 = l4) = False := eq_false (fun e => of_eq_false g45 e.symm)
  simp only [encO, encAn]
  rcases w1 with ⟨r1, rfl⟩ | ⟨lr, ys, rfl, r1⟩
  · have r3 : q.1.recs = [] := by simpa using r1
    rcases w2 with ⟨r2, rfl⟩ | ⟨lt, zs, rfl, r2⟩
    · have r4 : q.1.there = [] := by simpa using r2
      (replace hA := And.intro f4.1 (And.intro f5.1 (And.intro g45 (g54))); replace hP := True.intro; repeat' first | ((with_reducible apply gt_call); first | refine ce_callS ?_ | refine ce_callO ?_) | ((with_reducible apply gt_alloc); (refine ce_alloc ?_; intro la ha hn1; replace hNE := And.intro hNE hn1)) | ((with_reducible apply gt_box); refine ce_box ?_) | ((with_reducible apply gt_store); refine ce_store ?_) | ((with_reducible apply gd_call); first | refine de_callS ?_ | refine de_callO ?_) | ((with_reducible apply gd_store); first | refine de_store ?_ | refine de_storeZ ?_) | ((with_reducible apply gt_cond); first | refine c_cond ?_ ?_ | refine c_condB ?_ ?_) | ((with_reducible apply gt_any); refine ce_val ?_) | ((with_reducible apply gd_any); refine de_val ?_) | ((with_reducible apply gt_drw); first | refine ce_drwA ?_ | refine ce_drwE ?_ | refine ce_drwK ?_ | refine ce_drwZ ?_) | with_reducible first | apply k_seq | apply t_seq | apply t_reg | apply t_nil | apply t_skip | apply t_ret | apply t_exit | apply k_seq_exit | apply k_seq_ret | apply k_blk_exit | refine k_blk_other (by decide) ?_ | apply k_blk_ret | apply k_blk | apply t_block | apply m_nil | (with_reducible intro hc; with_reducible exact Bool.noConfusion hc) | (with_reducible intro hc; replace hC := And.intro hC hc))
      all_goals ((first | refine cpendE rs32 ?_ | refine cpendNE rs32 ?_); (have hA := And.intro hA (And.intro r3 (r4)); (try simp only [encU, encAn]) <;> exact fin_eq))
    · have m2 := k1 _ _ r2
      have d1 : (lt = l4) = False := eq_false (fun e => by rw [e, f4.2] at r2; cases r2)
      have d2 : (lt = l5) = False := eq_false (fun e => by rw [e, f5.2] at r2; cases r2)
      have m4 := take_row encB q.1.there zs
      have m6 := len_row encB q.1.there zs
      (replace hA := And.intro f4.1 (And.intro f5.1 (And.intro g45 (And.intro g54 (And.intro m2 (And.intro d1 (And.intro d2 (And.intro m4 (m6)))))))); replace hP := True.intro; repeat' first | ((with_reducible apply gt_call); first | refine ce_callS ?_ | refine ce_callO ?_) | ((with_reducible apply gt_alloc); (refine ce_alloc ?_; intro la ha hn1; replace hNE := And.intro hNE hn1)) | ((with_reducible apply gt_box); refine ce_box ?_) | ((with_reducible apply gt_store); refine ce_store ?_) | ((with_reducible apply gd_call); first | refine de_callS ?_ | refine de_callO ?_) | ((with_reducible apply gd_store); first | refine de_store ?_ | refine de_storeZ ?_) | ((with_reducible apply gt_cond); first | refine c_cond ?_ ?_ | refine c_condB ?_ ?_) | ((with_reducible apply gt_any); refine ce_val ?_) | ((with_reducible apply gd_any); refine de_val ?_) | ((with_reducible apply gt_drw); first | refine ce_drwA ?_ | refine ce_drwE ?_ | refine ce_drwK ?_ | refine ce_drwZ ?_) | with_reducible first | apply k_seq | apply t_seq | apply t_reg | apply t_nil | apply t_skip | apply t_ret | apply t_exit | apply k_seq_exit | apply k_seq_ret | apply k_blk_exit | refine k_blk_other (by decide) ?_ | apply k_blk_ret | apply k_blk | apply t_block | apply m_nil | (with_reducible intro hc; with_reducible exact Bool.noConfusion hc) | (with_reducible intro hc; replace hC := And.intro hC hc))
      all_goals ((first | refine cpendE rs32 ?_ | refine cpendNE rs32 ?_); (have hA := And.intro hA r3; (try simp only [encU, encAn]) <;> exact fin_eq))
  · have m1 := k1 _ _ r1
    have d3 : (lr = l4) = False := eq_false (fun e => by rw [e, f4.2] at r1; cases r1)
    have d4 : (lr = l5) = False := eq_false (fun e => by rw [e, f5.2] at r1; cases r1)
    have m3 := take_row encS q.1.recs ys
    have m5 := len_row encS q.1.recs ys
    rcases w2 with ⟨r2, rfl⟩ | ⟨lt, zs, rfl, r2⟩
    · have r4 : q.1.there = [] := by simpa using r2
      (replace hA := And.intro f4.1 (And.intro f5.1 (And.intro g45 (And.intro g54 (And.intro m1 (And.intro d3 (And.intro d4 (And.intro m3 (m5)))))))); replace hP := True.intro; repeat' first | ((with_reducible apply gt_call); first | refine ce_callS ?_ | refine ce_callO ?_) | ((with_reducible apply gt_alloc); (refine ce_alloc ?_; intro la ha hn1; replace hNE := And.intro hNE hn1)) | ((with_reducible apply gt_box); refine ce_box ?_) | ((with_reducible apply gt_store); refine ce_store ?_) | ((with_reducible apply gd_call); first | refine de_callS ?_ | refine de_callO ?_) | ((with_reducible apply gd_store); first | refine de_store ?_ | refine de_storeZ ?_) | ((with_reducible apply gt_cond); first | refine c_cond ?_ ?_ | refine c_condB ?_ ?_) | ((with_reducible apply gt_any); refine ce_val ?_) | ((with_reducible apply gd_any); refine de_val ?_) | ((with_reducible apply gt_drw); first | refine ce_drwA ?_ | refine ce_drwE ?_ | refine ce_drwK ?_ | refine ce_drwZ ?_) | with_reducible first | apply k_seq | apply t_seq | apply t_reg | apply t_nil | apply t_skip | apply t_ret | apply t_exit | apply k_seq_exit | apply k_seq_ret | apply k_blk_exit | refine k_blk_other (by decide) ?_ | apply k_blk_ret | apply k_blk | apply t_block | apply m_nil | (with_reducible intro hc; with_reducible exact Bool.noConfusion hc) | (with_reducible intro hc; replace hC := And.intro hC hc))
      all_goals ((first | refine cpendE rs32 ?_ | refine cpendNE rs32 ?_); (have hA := And.intro hA r4; (try simp only [encU, encAn]) <;> exact fin_eq))
    · have m2 := k1 _ _ r2
      have d1 : (lt = l4) = False := eq_false (fun e => by rw [e, f4.2] at r2; cases r2)
      have d2 : (lt = l5) = False := eq_false (fun e => by rw [e, f5.2] at r2; cases r2)
      have m4 := take_row encB q.1.there zs
      have m6 := len_row encB q.1.there zs
      (replace hA := And.intro f4.1 (And.intro f5.1 (And.intro g45 (And.intro g54 (And.intro m1 (And.intro m2 (And.intro d1 (And.intro d2 (And.intro d3 (And.intro d4 (And.intro m3 (And.intro m4 (And.intro m5 (m6))))))))))))); replace hP := True.intro; repeat' first | ((with_reducible apply gt_call); first | refine ce_callS ?_ | refine ce_callO ?_) | ((with_reducible apply gt_alloc); (refine ce_alloc ?_; intro la ha hn1; replace hNE := And.intro hNE hn1)) | ((with_reducible apply gt_box); refine ce_box ?_) | ((with_reducible apply gt_store); refine ce_store ?_) | ((with_reducible apply gd_call); first | refine de_callS ?_ | refine de_callO ?_) | ((with_reducible apply gd_store); first | refine de_store ?_ | refine de_storeZ ?_) | ((with_reducible apply gt_cond); first | refine c_cond ?_ ?_ | refine c_condB ?_ ?_) | ((with_reducible apply gt_any); refine ce_val ?_) | ((with_reducible apply gd_any); refine de_val ?_) | ((with_reducible apply gt_drw); first | refine ce_drwA ?_ | refine ce_drwE ?_ | refine ce_drwK ?_ | refine ce_drwZ ?_) | with_reducible first | apply k_seq | apply t_seq | apply t_reg | apply t_nil | apply t_skip | apply t_ret | apply t_exit | apply k_seq_exit | apply k_seq_ret | apply k_blk_exit | refine k_blk_other (by decide) ?_ | apply k_blk_ret | apply k_blk | apply t_block | apply m_nil | (with_reducible intro hc; with_reducible exact Bool.noConfusion hc) | (with_reducible intro hc; replace hC := And.intro hC hc))
      all_goals ((first | refine cpendE rs32 ?_ | refine cpendNE rs32 ?_); ((try simp only [encU, encAn]) <;> exact fin_eq))
set_option maxHeartbeats 8000000 in
theorem p32d (u : Un) (a : Ac) (h : Vu u) (hac : u.access = 1) (ht : u.there ≠ []) (hk0 : 0 ≤ a.kind) (hk5 : a.kind ≤ 5) (hbl : a.bytes.length ≤ 4000) : PPure Try.prog 32 [encU u, encAc a] (.tup [encU (doneF u a).1, encAn (doneF u a).2]) := by
  have hl : u.recs.length ≤ 60 ∧ u.there.length ≤ 60 := by
    obtain ⟨h1, _⟩ | ⟨_, _, _, hl, hl2, _⟩ | ⟨h1, _⟩ := h
    · omega
    · omega
    · omega
  have hg := fun l1 l2 hne => g74k u a h hac hk0 hk5 hbl l1 l2 hne
  obtain ⟨q, hq⟩ : ∃ q, doneF u a = q := ⟨_, rfl⟩
  rw [hq] at hg ⊢
  simp only [encU, encAc]
  (refine ppure_of_T ok32 (by simp only [List.length_cons, List.length_nil]; decide) ?_; refine t_seq ?_)
  have hNE := True.intro; have hC := True.intro; have hA := True.intro; have hP := True.intro
  (replace hA := True.intro; replace hP := And.intro @p72' (True.intro); repeat' first | ((with_reducible apply gt_call); first | refine ce_callS ?_ | refine ce_callO ?_) | ((with_reducible apply gt_alloc); (refine ce_alloc ?_; intro la ha hn1; replace hNE := And.intro hNE hn1)) | ((with_reducible apply gt_box); (refine ce_boxL ?_; intro la ha hn1; replace hNE := And.intro hNE hn1)) | ((with_reducible apply gt_store); refine ce_store ?_) | ((with_reducible apply gd_call); first | refine de_callS ?_ | refine de_callO ?_) | ((with_reducible apply gd_store); first | refine de_store ?_ | refine de_storeZ ?_) | ((with_reducible apply gt_cond); first | refine c_cond ?_ ?_ | refine c_condB ?_ ?_) | ((with_reducible apply gt_any); refine ce_val ?_) | ((with_reducible apply gd_any); refine de_val ?_) | ((with_reducible apply gt_drw); first | refine ce_drwA ?_ | refine ce_drwE ?_ | refine ce_drwK ?_ | refine ce_drwZ ?_) | with_reducible first | apply k_seq | apply t_seq | apply t_reg | apply t_nil | apply t_skip | apply t_ret | apply t_exit | apply k_seq_exit | apply k_seq_ret | apply k_blk_exit | refine k_blk_other (by decide) ?_ | apply k_blk_ret | apply k_blk | apply t_block | apply m_nil | (with_reducible intro hc; with_reducible exact Bool.noConfusion hc) | (with_reducible intro hc; replace hC := And.intro hC hc))
  rename_i lu au nu lx ax nx l4 a4 n4 c1
  obtain ⟨l5, h5⟩ : ∃ l, l = la := ⟨la, rfl⟩
  subst h5
  (first | ((with_reducible apply te_callG); (focus (simp (maxDischargeDepth := 8) only [go_sem, hNE]; first | done | exact rfl)); (focus (simp (maxDischargeDepth := 8) only [go_sem, hNE]; first | done | exact rfl))) | ((with_reducible apply te_callGB); (focus (simp (maxDischargeDepth := 8) only [go_sem, hNE]; first | done | exact rfl)); (focus (simp (maxDischargeDepth := 8) only [go_sem, hNE]; first | done | exact rfl))) | ((with_reducible apply me_callG); (focus (simp (maxDischargeDepth := 8) only [go_sem, hNE]; first | done | exact rfl)); (focus (simp (maxDischargeDepth := 8) only [go_sem, hNE]; first | done | exact rfl)); (focus (simp only [List.all_cons, List.all_nil, allocB, PV.isDef, go_sem, hNE]; first | done | exact rfl))) | ((with_reducible apply me_callGB); (focus (simp (maxDischargeDepth := 8) only [go_sem, hNE]; first | done | exact rfl)); (focus (simp (maxDischargeDepth := 8) only [go_sem, hNE]; first | done | exact rfl)); (focus (simp only [List.all_cons, List.all_nil, allocB, PV.isDef, go_sem, hNE]; first | done | exact rfl)))); refine g14c u ht (by omega) (by omega) _ ?_
  intro l1 l2 b1 b2 b3
  replace hNE := And.intro hNE (And.intro (fresh_ne b1) (And.intro (fresh_ne b2) (And.intro (eq_false b3) (eq_false (Ne.symm b3)))))
  simp only [encO]
  (replace hA := True.intro; replace hP := True.intro; repeat' first | ((with_reducible apply gt_call); first | refine ce_callS ?_ | refine ce_callO ?_) | ((with_reducible apply gt_alloc); (refine ce_alloc ?_; intro la ha hn1; replace hNE := And.intro hNE hn1)) | ((with_reducible apply gt_box); refine ce_box ?_) | ((with_reducible apply gt_store); refine ce_store ?_) | ((with_reducible apply gd_call); first | refine de_callS ?_ | refine de_callO ?_) | ((with_reducible apply gd_store); first | refine de_store ?_ | refine de_storeZ ?_) | ((with_reducible apply gt_cond); first | refine c_cond ?_ ?_ | refine c_condB ?_ ?_) | ((with_reducible apply gt_any); refine ce_val ?_) | ((with_reducible apply gd_any); refine de_val ?_) | ((with_reducible apply gt_drw); first | refine ce_drwA ?_ | refine ce_drwE ?_ | refine ce_drwK ?_ | refine ce_drwZ ?_) | with_reducible first | apply k_seq | apply t_seq | apply t_reg | apply t_nil | apply t_skip | apply t_ret | apply t_exit | apply k_seq_exit | apply k_seq_ret | apply k_blk_exit | refine k_blk_other (by decide) ?_ | apply k_blk_ret | apply k_blk | apply t_block | apply m_nil | (with_reducible intro hc; with_reducible exact Bool.noConfusion hc) | (with_reducible intro hc; replace hC := And.intro hC hc))
  (first | ((with_reducible apply te_callG); (focus (simp (maxDischargeDepth := 8) only [go_sem, hNE]; first | done | exact rfl)); (focus (simp (maxDischargeDepth := 8) only [go_sem, hNE]; first | done | exact rfl))) | ((with_reducible apply te_callGB); (focus (simp (maxDischargeDepth := 8) only [go_sem, hNE]; first | done | exact rfl)); (focus (simp (maxDischargeDepth := 8) only [go_sem, hNE]; first | done | exact rfl))) | ((with_reducible apply me_callG); (focus (simp (maxDischargeDepth := 8) only [go_sem, hNE]; first | done | exact rfl)); (focus (simp (maxDischargeDepth := 8) only [go_sem, hNE]; first | done | exact rfl)); (focus (simp only [List.all_cons, List.all_nil, allocB, PV.isDef, go_sem, hNE]; first | done | exact rfl))) | ((with_reducible apply me_callGB); (focus (simp (maxDischargeDepth := 8) only [go_sem, hNE]; first | done | exact rfl)); (focus (simp (maxDischargeDepth := 8) only [go_sem, hNE]; first | done | exact rfl)); (focus (simp only [List.all_cons, List.all_nil, allocB, PV.isDef, go_sem, hNE]; first | done | exact rfl)))); refine CallsG.keep (hp [(l2, .row true 1 (u.there.map encB)), (l1, .row true 1 (u.recs.map encS))]) (hg l1 l2 b3) (hp2_sub (by exact ev_eq) (by exact ev_eq)) ?_
  intro r H' H2 ⟨v1, v2, e0, w1, w2⟩ k1 k2
  subst e0
  have f4 := k2 l4 7 _ (by exact ev_eq) (by simp (maxDischargeDepth := 8) only [go_sem, hNE])
  have f5 := k2 l5 3 _ (by exact ev_eq) (by simp (maxDischargeDepth := 8) only [go_sem, hNE])
  have g45 : (l4 = l5) = False := by simp (maxDischargeDepth := 8) only [go_sem, hNE]
  have g54 : (l5 = l4) = False := eq_false (fun e => of_eq_false g45 e.symm)
  simp only [encO, encAn]
  rcases w1 with ⟨r1, rfl⟩ | ⟨lr, ys, rfl, r1⟩
  · have r3 : q.1.recs = [] := by simpa using r1
    rcases w2 with ⟨r2, rfl⟩ | ⟨lt, zs, rfl, r2⟩
    · have r4 : q.1.there = [] := by simpa using r2
      (replace hA := And.intro f4.1 (And.intro f5.1 (And.intro g45 (g54))); replace hP := True.intro; repeat' first | ((with_reducible apply gt_call); first | refine ce_callS ?_ | refine ce_callO ?_) | ((with_reducible apply gt_alloc); (refine ce_alloc ?_; intro la ha hn1; replace hNE := And.intro hNE hn1)) | ((with_reducible apply gt_box); refine ce_box ?_) | ((with_reducible apply gt_store); refine ce_store ?_) | ((with_reducible apply gd_call); first | refine de_callS ?_ | refine de_callO ?_) | ((with_reducible apply gd_store); first | refine de_store ?_ | refine de_storeZ ?_) | ((with_reducible apply gt_cond); first | refine c_cond ?_ ?_ | refine c_condB ?_ ?_) | ((with_reducible apply gt_any); refine ce_val ?_) | ((with_reducible apply gd_any); refine de_val ?_) | ((with_reducible apply gt_drw); first | refine ce_drwA ?_ | refine ce_drwE ?_ | refine ce_drwK ?_ | refine ce_drwZ ?_) | with_reducible first | apply k_seq | apply t_seq | apply t_reg | apply t_nil | apply t_skip | apply t_ret | apply t_exit | apply k_seq_exit | apply k_seq_ret | apply k_blk_exit | refine k_blk_other (by decide) ?_ | apply k_blk_ret | apply k_blk | apply t_block | apply m_nil | (with_reducible intro hc; with_reducible exact Bool.noConfusion hc) | (with_reducible intro hc; replace hC := And.intro hC hc))
      all_goals ((first | refine cpendE rs32 ?_ | refine cpendNE rs32 ?_); (have hA := And.intro hA (And.intro r3 (r4)); (try simp only [encU, encAn]) <;> exact fin_eq))
    · have m2 := k1 _ _ r2
      have d1 : (lt = l4) = False := eq_false (fun e => by rw [e, f4.2] at r2; cases r2)
      have d2 : (lt = l5) = False := eq_false (fun e => by rw [e, f5.2] at r2; cases r2)
      have m4 := take_row encB q.1.there zs
      have m6 := len_row encB q.1.there zs
      (replace hA := And.intro f4.1 (And.intro f5.1 (And.intro g45 (And.intro g54 (And.intro m2 (And.intro d1 (And.intro d2 (And.intro m4 (m6)))))))); replace hP := True.intro; repeat' first | ((with_reducible apply gt_call); first | refine ce_callS ?_ | refine ce_callO ?_) | ((with_reducible apply gt_alloc); (refine ce_alloc ?_; intro la ha hn1; replace hNE := And.intro hNE hn1)) | ((with_reducible apply gt_box); refine ce_box ?_) | ((with_reducible apply gt_store); refine ce_store ?_) | ((with_reducible apply gd_call); first | refine de_callS ?_ | refine de_callO ?_) | ((with_reducible apply gd_store); first | refine de_store ?_ | refine de_storeZ ?_) | ((with_reducible apply gt_cond); first | refine c_cond ?_ ?_ | refine c_condB ?_ ?_) | ((with_reducible apply gt_any); refine ce_val ?_) | ((with_reducible apply gd_any); refine de_val ?_) | ((with_reducible apply gt_drw); first | refine ce_drwA ?_ | refine ce_drwE ?_ | refine ce_drwK ?_ | refine ce_drwZ ?_) | with_reducible first | apply k_seq | apply t_seq | apply t_reg | apply t_nil | apply t_skip | apply t_ret | apply t_exit | apply k_seq_exit | apply k_seq_ret | apply k_blk_exit | refine k_blk_other (by decide) ?_ | apply k_blk_ret | apply k_blk | apply t_block | apply m_nil | (with_reducible intro hc; with_reducible exact Bool.noConfusion hc) | (with_reducible intro hc; replace hC := And.intro hC hc))
      all_goals ((first | refine cpendE rs32 ?_ | refine cpendNE rs32 ?_); (have hA := And.intro hA r3; (try simp only [encU, encAn]) <;> exact fin_eq))
  · have m1 := k1 _ _ r1
    have d3 : (lr = l4) = False := eq_false (fun e => by rw [e, f4.2] at r1; cases r1)
    have d4 : (lr = l5) = False := eq_false (fun e => by rw [e, f5.2] at r1; cases r1)
    have m3 := take_row encS q.1.recs ys
    have m5 := len_row encS q.1.recs ys
    rcases w2 with ⟨r2, rfl⟩ | ⟨lt, zs, rfl, r2⟩
    · have r4 : q.1.there = [] := by simpa using r2
      (replace hA := And.intro f4.1 (And.intro f5.1 (And.intro g45 (And.intro g54 (And.intro m1 (And.intro d3 (And.intro d4 (And.intro m3 (m5)))))))); replace hP := True.intro; repeat' first | ((with_reducible apply gt_call); first | refine ce_callS ?_ | refine ce_callO ?_) | ((with_reducible apply gt_alloc); (refine ce_alloc ?_; intro la ha hn1; replace hNE := And.intro hNE hn1)) | ((with_reducible apply gt_box); refine ce_box ?_) | ((with_reducible apply gt_store); refine ce_store ?_) | ((with_reducible apply gd_call); first | refine de_callS ?_ | refine de_callO ?_) | ((with_reducible apply gd_store); first | refine de_store ?_ | refine de_storeZ ?_) | ((with_reducible apply gt_cond); first | refine c_cond ?_ ?_ | refine c_condB ?_ ?_) | ((with_reducible apply gt_any); refine ce_val ?_) | ((with_reducible apply gd_any); refine de_val ?_) | ((with_reducible apply gt_drw); first | refine ce_drwA ?_ | refine ce_drwE ?_ | refine ce_drwK ?_ | refine ce_drwZ ?_) | with_reducible first | apply k_seq | apply t_seq | apply t_reg | apply t_nil | apply t_skip | apply t_ret | apply t_exit | apply k_seq_exit | apply k_seq_ret | apply k_blk_exit | refine k_blk_other (by decide) ?_ | apply k_blk_ret | apply k_blk | apply t_block | apply m_nil | (with_reducible intro hc; with_reducible exact Bool.noConfusion hc) | (with_reducible intro hc; replace hC := And.intro hC hc))
      all_goals ((first | refine cpendE rs32 ?_ | refine cpendNE rs32 ?_); (have hA := And.intro hA r4; (try simp only [encU, encAn]) <;> exact fin_eq))
    · have m2 := k1 _ _ r2
      have d1 : (lt = l4) = False := eq_false (fun e => by rw [e, f4.2] at r2; cases r2)
      have d2 : (lt = l5) = False := eq_false (fun e => by rw [e, f5.2] at r2; cases r2)
      have m4 := take_row encB q.1.there zs
      have m6 := len_row encB q.1.there zs
      (replace hA := And.intro f4.1 (And.intro f5.1 (And.intro g45 (And.intro g54 (And.intro m1 (And.intro m2 (And.intro d1 (And.intro d2 (And.intro d3 (And.intro d4 (And.intro m3 (And.intro m4 (And.intro m5 (m6))))))))))))); replace hP := True.intro; repeat' first | ((with_reducible apply gt_call); first | refine ce_callS ?_ | refine ce_callO ?_) | ((with_reducible apply gt_alloc); (refine ce_alloc ?_; intro la ha hn1; replace hNE := And.intro hNE hn1)) | ((with_reducible apply gt_box); refine ce_box ?_) | ((with_reducible apply gt_store); refine ce_store ?_) | ((with_reducible apply gd_call); first | refine de_callS ?_ | refine de_callO ?_) | ((with_reducible apply gd_store); first | refine de_store ?_ | refine de_storeZ ?_) | ((with_reducible apply gt_cond); first | refine c_cond ?_ ?_ | refine c_condB ?_ ?_) | ((with_reducible apply gt_any); refine ce_val ?_) | ((with_reducible apply gd_any); refine de_val ?_) | ((with_reducible apply gt_drw); first | refine ce_drwA ?_ | refine ce_drwE ?_ | refine ce_drwK ?_ | refine ce_drwZ ?_) | with_reducible first | apply k_seq | apply t_seq | apply t_reg | apply t_nil | apply t_skip | apply t_ret | apply t_exit | apply k_seq_exit | apply k_seq_ret | apply k_blk_exit | refine k_blk_other (by decide) ?_ | apply k_blk_ret | apply k_blk | apply t_block | apply m_nil | (with_reducible intro hc; with_reducible exact Bool.noConfusion hc) | (with_reducible intro hc; replace hC := And.intro hC hc))
      all_goals ((first | refine cpendE rs32 ?_ | refine cpendNE rs32 ?_); ((try simp only [encU, encAn]) <;> exact fin_eq))
set_option maxHeartbeats 8000000 in
theorem p32t (u : Un) (a : Ac) (h : Vu u) (hac : u.access = 2) (hk0 : 0 ≤ a.kind) (hk5 : a.kind ≤ 5) (hbl : a.bytes.length ≤ 4000) : PPure Try.prog 32 [encU u, encAc a] (.tup [encU (doneF u a).1, encAn (doneF u a).2]) := by
  obtain ⟨h1, _⟩ | ⟨h1, _⟩ | ⟨_, hw, hr, ht, hb, he, hp0, hp1⟩ := h
  · omega
  · omega
  have h1 := p14 u (by rw [hr]; simp) (by rw [ht]; simp)
  have h2 := p75 u a hp0 hp1 hb hbl hac hk0 hk5
  obtain ⟨q, hq⟩ : ∃ q, doneF u a = q := ⟨_, rfl⟩
  rw [hq] at h2 ⊢
  simp only [encU, encAc, encAn] at h1 h2 ⊢
  (refine ppure_of_T ok32 (by simp only [List.length_cons, List.length_nil]; decide) ?_; refine t_seq ?_)
  have hNE := True.intro; have hC := True.intro; have hA := True.intro; have hP := True.intro
  (replace hA := True.intro; replace hP := And.intro h1 (And.intro h2 (And.intro @p72' (True.intro))); repeat' first | ((with_reducible apply gt_call); first | refine ce_callS ?_ | refine ce_callO ?_) | ((with_reducible apply gt_alloc); (refine ce_alloc ?_; intro la ha hn1; replace hNE := And.intro hNE hn1)) | ((with_reducible apply gt_box); (refine ce_boxL ?_; intro la ha hn1; replace hNE := And.intro hNE hn1)) | ((with_reducible apply gt_store); refine ce_store ?_) | ((with_reducible apply gd_call); first | refine de_callS ?_ | refine de_callO ?_) | ((with_reducible apply gd_store); first | refine de_store ?_ | refine de_storeZ ?_) | ((with_reducible apply gt_cond); first | refine c_cond ?_ ?_ | refine c_condB ?_ ?_) | ((with_reducible apply gt_any); refine ce_val ?_) | ((with_reducible apply gd_any); refine de_val ?_) | ((with_reducible apply gt_drw); first | refine ce_drwA ?_ | refine ce_drwE ?_ | refine ce_drwK ?_ | refine ce_drwZ ?_) | with_reducible first | apply k_seq | apply t_seq | apply t_reg | apply t_nil | apply t_skip | apply t_ret | apply t_exit | apply k_seq_exit | apply k_seq_ret | apply k_blk_exit | refine k_blk_other (by decide) ?_ | apply k_blk_ret | apply k_blk | apply t_block | apply m_nil | (with_reducible intro hc; with_reducible exact Bool.noConfusion hc) | (with_reducible intro hc; replace hC := And.intro hC hc))
  all_goals ((first | refine cpendE rs32 ?_ | refine cpendNE rs32 ?_); (exact fin_eq))
theorem p32 (u : Un) (a : Ac) (h : Vu u) (hk0 : 0 ≤ a.kind) (hk5 : a.kind ≤ 7) (hbl : a.bytes.length ≤ 4000) : PPure Try.prog 32 [encU u, encAc a] (.tup [encU (doneF u a).1, encAn (doneF u a).2]) := by
  by_cases hk : a.kind = 6 ∨ a.kind = 7
  · exact p32a u a h hk
  have hac : u.access = 0 ∨ u.access = 1 ∨ u.access = 2 := by
    obtain ⟨h1, _⟩ | ⟨h1, _⟩ | ⟨h1, _⟩ := h
    · exact .inl h1
    · exact .inr (.inl h1)
    · exact .inr (.inr h1)
  rcases hac with h1 | h1 | h1
  · exact p32s u a h h1 hk0 (by omega)
  · by_cases ht : u.there = []
    · exact p32e u a h h1 ht hk0 (by omega) hbl
    · exact p32d u a h h1 ht hk0 (by omega) hbl
  · exact p32t u a h h1 hk0 (by omega) hbl
end Go.Proofs.Ythdgdngdfijfhaa
namespace Go.Proofs.Ythdgdngdfijfhaa
open Go.RowKit Go.Proofs
set_option linter.unusedVariables false
set_option linter.unusedSimpArgs false
attribute [local irreducible] PPure CallN Tops TopsDm T
theorem runL_take {l : List Ac} {i : Nat} (hi : i < l.length) (u : Un) : runL u (l.take (i + 1)) = ((doneF (runL u (l.take i)).1 l[i]).1, (runL u (l.take i)).2 ++ [(doneF (runL u (l.take i)).1 l[i]).2]) := by
  rw [take_in hi, runL_append]
attribute [local go_sem] encAc in
set_option maxHeartbeats 8000000 in
theorem p27 (u : Un) (l : List Ac) (h : Vu u) (hacts : ∀ a ∈ l, actE a = 0) (hll : l.length ≤ 1000) :
    PPure Try.prog 27 [encU u, .list .any (l.map encAc)] (.tup [encU (runL u l).1, .list .any ((runL u l).2.map encAn)]) := by
  have hcp : PPure Try.prog 14 [encU u] (encU u) := by
    obtain ⟨_, _, hn, _, ht, _⟩ | ⟨_, _, _, hn, ht, _⟩ | ⟨_, _, hn, ht, _⟩ := h
    · exact p14 u (by omega) (by rw [ht]; simp)
    · exact p14 u (by omega) (by omega)
    · exact p14 u (by rw [hn]; simp) (by rw [ht]; simp)
  simp only [encU] at hcp
  obtain ⟨R, hR⟩ : ∃ R, runL u l = R := ⟨_, rfl⟩
  rw [hR]
  simp only [encU]
  (refine ppure_of_T ok27 (by simp only [List.length_cons, List.length_nil]; decide) ?_; refine t_seq ?_)
  have hNE := True.intro; have hC := True.intro; have hA := True.intro; have hP := True.intro
  (replace hA := True.intro; replace hP := And.intro hcp (True.intro); repeat' first | ((with_reducible apply gt_call); first | refine ce_callS ?_ | refine ce_callO ?_) | ((with_reducible apply gt_alloc); (refine ce_alloc ?_; intro la ha hn1; replace hNE := And.intro hNE hn1)) | ((with_reducible apply gt_box); (refine ce_boxL ?_; intro la ha hn1; replace hNE := And.intro hNE hn1)) | ((with_reducible apply gt_store); refine ce_store ?_) | ((with_reducible refine gt_appT app_46 ?_); first | refine ce_appendE app_46 c_59 ?_ | (refine ce_appendL app_46 c_59 ?_; intro la ha hn1; replace hNE := And.intro hNE hn1) | refine ce_append app_46 c_59 ?_ ?_ | (refine ce_appendB app_46 c_59 ?_; intro la ha hn1; replace hNE := And.intro hNE hn1)) | ((with_reducible apply gd_call); first | refine de_callS ?_ | refine de_callO ?_) | ((with_reducible apply gd_alloc); (refine de_alloc ?_; intro la ha hn1; replace hNE := And.intro hNE hn1)) | ((with_reducible apply gd_store); first | refine de_store ?_ | refine de_storeZ ?_) | ((with_reducible apply gt_cond); first | refine c_cond ?_ ?_ | refine c_condB ?_ ?_) | ((with_reducible apply gt_any); refine ce_val ?_) | ((with_reducible apply gd_any); refine de_val ?_) | ((with_reducible apply gt_drw); first | refine ce_drwA ?_ | refine ce_drwE ?_ | refine ce_drwK ?_ | refine ce_drwZ ?_) | with_reducible first | apply k_seq | apply t_seq | apply t_reg | apply t_nil | apply t_skip | apply t_ret | apply t_exit | apply k_seq_exit | apply k_seq_ret | apply k_blk_exit | refine k_blk_other (by decide) ?_ | apply k_blk_ret | apply k_blk | apply t_block | apply m_nil | (with_reducible intro hc; with_reducible exact Bool.noConfusion hc) | (with_reducible intro hc; replace hC := And.intro hC hc))
  rename_i lu au nu
  obtain ⟨l4, h4⟩ : ∃ l, l = la := ⟨la, rfl⟩
  subst h4
  refine t_loopX (fun (k0 : Nat) (E0 : Nat → PV) (H0 : Hp) => ∃ (i : Nat) (w : Un) (bs : List An) (lo : Lab), i + k0 = l.length ∧ bs.length = i ∧ Vu w ∧ runL u (l.take i) = (w, bs) ∧ ((lu = l4) = False ∧ (l4 = lu) = False ∧ (lu = lo) = False ∧ (lo = lu) = False ∧ (l4 = lo) = False ∧ (lo = l4) = False) ∧ (E0 7 = .int .i64 (i : Int) ∧ E0 6 = .arr lo 3 0 (bs.length)) ∧ H0 = hp [(lu, .row true 7 ([encU w])), (l4, .row true 7 ([zU])), (lo, .row true 3 (bs.map encAn))]) (l.length) ?_ ?_
  intro Ng
  obtain ⟨g_lo, g_lo1, g_lo2⟩ := ghost_new Ng [lu, l4]
  have g_lo3 := (And.intro (g_lo2 lu (by simp only [List.mem_cons, List.mem_nil_iff, true_or, or_true])) (g_lo2 l4 (by simp only [List.mem_cons, List.mem_nil_iff, true_or, or_true])))
  replace hA := And.intro hA g_lo3
  refine ⟨_, _, (wkE_upd (t := 6) (v := .arr g_lo 3 0 0) wkE_id rfl wv_nil), (by repeat' first | exact rowsok_nil | refine rowsok_cons ?_ ?_ | exact rowok_ghost (by assumption) | exact rowA | ((try simp only [cast0, encU, zU, List.map_nil]) <;> exact rowA)), 0, u, [], g_lo, (by first | omega | rfl | assumption | (first | exact lv_eq | ((try simp only [cast0, encU, zU, List.map_nil]) <;> exact lv_eq) | (simp (maxDischargeDepth := 8) only [go_sem, hNE, hA, cast0, encU, zU, List.map_nil, List.length_append, List.length_cons, List.length_nil, Nat.zero_add]; first | done | rfl))), (by first | omega | rfl | assumption | (first | exact lv_eq | ((try simp only [cast0, encU, zU, List.map_nil]) <;> exact lv_eq) | (simp (maxDischargeDepth := 8) only [go_sem, hNE, hA, cast0, encU, zU, List.map_nil, List.length_append, List.length_cons, List.length_nil, Nat.zero_add]; first | done | rfl))), ?_, ?_, (by (repeat' apply And.intro) <;> exact lv_eq), (by (repeat' apply And.intro) <;> first | exact lv_eq | ((try simp only [cast0, encU, zU, List.map_nil]) <;> exact lv_eq) | (simp (maxDischargeDepth := 8) only [go_sem, hNE, hA, cast0, encU, zU, List.map_nil, List.length_append, List.length_cons, List.length_nil, Nat.zero_add]; first | done | rfl)), rfl⟩
  · exact h
  · rfl
  rintro k0 E0 H0 hfr0 ⟨i, w, bs, lo, hk, hbs, hv, hr, ⟨d0_0, d0_1, d0_2, d0_3, d0_4, d0_5⟩, ⟨h0_7, h0_6⟩, rfl⟩
  have e0_1 := hfr0 1 rfl; have e0_2 := hfr0 2 rfl; have e0_4 := hfr0 4 rfl; have e0_5 := hfr0 5 rfl
  simp (maxDischargeDepth := 8) only [go_sem, cast0, encU, zU, List.map_nil, hNE] at e0_1 e0_2 e0_4 e0_5
  clear hfr0
  have d0 := And.intro d0_0 (And.intro d0_1 (And.intro d0_2 (And.intro d0_3 (And.intro d0_4 (d0_5)))))
  simp only [zU, encU]
  by_cases hi : i < l.length
  · have hai := hacts _ (List.getElem_mem hi)
    obtain ⟨⟨hk0, hk1⟩, hbl, _⟩ := (actE_zero _).1 hai
    have h32 := p32 w l[i] hv hk0 hk1 hbl
    obtain ⟨q, hq⟩ : ∃ q, doneF w l[i] = q := ⟨_, rfl⟩
    have hv2 := done_valid (a := l[i]) hv hai
    have hr2 := runL_take hi u
    rw [hr] at hr2
    simp only [hq] at h32 hv2 hr2
    simp only [encU, encAc, encAn] at h32
    (replace hA := And.intro e0_1 (And.intro e0_2 (And.intro e0_4 (And.intro e0_5 (And.intro h0_7 (And.intro h0_6 (d0)))))); replace hP := And.intro h32 (True.intro); repeat' first | ((with_reducible apply gt_call); first | refine ce_callS ?_ | refine ce_callO ?_) | ((with_reducible apply gt_alloc); (refine ce_alloc ?_; intro la ha hn1; replace hNE := And.intro hNE hn1)) | ((with_reducible apply gt_box); (refine ce_boxL ?_; intro la ha hn1; replace hNE := And.intro hNE hn1)) | ((with_reducible apply gt_store); refine ce_store ?_) | ((with_reducible refine gt_appT app_46 ?_); first | refine ce_appendE app_46 c_59 ?_ | (refine ce_appendL app_46 c_59 ?_; intro la ha hn1; replace hNE := And.intro hNE hn1) | refine ce_append app_46 c_59 ?_ ?_ | (refine ce_appendB app_46 c_59 ?_; intro la ha hn1; replace hNE := And.intro hNE hn1)) | ((with_reducible apply gd_call); first | refine de_callS ?_ | refine de_callO ?_) | ((with_reducible apply gd_alloc); (refine de_alloc ?_; intro la ha hn1; replace hNE := And.intro hNE hn1)) | ((with_reducible apply gd_store); first | refine de_store ?_ | refine de_storeZ ?_) | ((with_reducible apply gt_cond); first | refine c_cond ?_ ?_ | refine c_condB ?_ ?_) | ((with_reducible apply gt_any); refine ce_val ?_) | ((with_reducible apply gd_any); refine de_val ?_) | ((with_reducible apply gt_drw); first | refine ce_drwA ?_ | refine ce_drwE ?_ | refine ce_drwK ?_ | refine ce_drwZ ?_) | with_reducible first | apply k_seq | apply t_seq | apply t_reg | apply t_nil | apply t_skip | apply t_ret | apply t_exit | apply k_seq_exit | apply k_seq_ret | apply k_blk_exit | refine k_blk_other (by decide) ?_ | apply k_blk_ret | apply k_blk | apply k_invX_ret | apply k_invX_exit | apply t_block | apply m_nil | (with_reducible intro hc; with_reducible exact Bool.noConfusion hc) | (with_reducible intro hc; replace hC := And.intro hC hc))
    refine k_invX (k0 - 1) (by omega) ?_
    intro Ng
    replace hA := And.intro hA (And.intro e0_1 (And.intro e0_2 (And.intro e0_4 (And.intro e0_5 (And.intro h0_7 (And.intro h0_6 (d0)))))))
    refine ⟨_, _, wkE_id, (by repeat' first | exact rowsok_nil | refine rowsok_cons ?_ ?_ | exact rowok_ghost (by assumption) | exact rowA | ((try simp only [encU, encAn, List.map_append, take_row]) <;> exact rowA)), i + 1, q.1, bs ++ [q.2], la, (by first | omega | (simp only [List.length_append, List.length_cons, List.length_nil, List.length_drop, List.length_take, List.length_map]; omega)), (by first | omega | (simp only [List.length_append, List.length_cons, List.length_nil, List.length_drop, List.length_take, List.length_map]; omega)), ?_, ?_, (by (repeat' apply And.intro) <;> exact lv_eq), (by (repeat' apply And.intro) <;> first | exact lv_eq | ((try simp only [encU, encAn, List.map_append, take_row]) <;> exact lv_eq) | (simp (maxDischargeDepth := 8) only [go_sem, hNE, hA, encU, encAn, List.map_append, take_row, List.length_append, List.length_cons, List.length_nil, Nat.zero_add]; first | done | rfl)), rfl⟩
    · exact hv2
    · exact hr2
  · have hil : i = l.length := by omega
    subst hil
    rw [List.take_length, hR] at hr
    subst hr
    (replace hA := And.intro e0_1 (And.intro e0_2 (And.intro e0_4 (And.intro e0_5 (And.intro h0_7 (And.intro h0_6 (d0)))))); replace hP := True.intro; repeat' first | ((with_reducible apply gt_call); first | refine ce_callS ?_ | refine ce_callO ?_) | ((with_reducible apply gt_alloc); (refine ce_alloc ?_; intro la ha hn1; replace hNE := And.intro hNE hn1)) | ((with_reducible apply gt_box); refine ce_box ?_) | ((with_reducible apply gt_store); refine ce_store ?_) | ((with_reducible refine gt_appT app_46 ?_); first | refine ce_appendE app_46 c_59 ?_ | (refine ce_appendL app_46 c_59 ?_; intro la ha hn1; replace hNE := And.intro hNE hn1) | refine ce_append app_46 c_59 ?_ ?_ | (refine ce_appendB app_46 c_59 ?_; intro la ha hn1; replace hNE := And.intro hNE hn1)) | ((with_reducible apply gd_call); first | refine de_callS ?_ | refine de_callO ?_) | ((with_reducible apply gd_alloc); (refine de_alloc ?_; intro la ha hn1; replace hNE := And.intro hNE hn1)) | ((with_reducible apply gd_store); first | refine de_store ?_ | refine de_storeZ ?_) | ((with_reducible apply gt_cond); first | refine c_cond ?_ ?_ | refine c_condB ?_ ?_) | ((with_reducible apply gt_any); refine ce_val ?_) | ((with_reducible apply gd_any); refine de_val ?_) | ((with_reducible apply gt_drw); first | refine ce_drwA ?_ | refine ce_drwE ?_ | refine ce_drwK ?_ | refine ce_drwZ ?_) | with_reducible first | apply k_seq | apply t_seq | apply t_reg | apply t_nil | apply t_skip | apply t_ret | apply t_exit | apply k_seq_exit | apply k_seq_ret | apply k_blk_exit | refine k_blk_other (by decide) ?_ | apply k_blk_ret | apply k_blk | apply k_invX_ret | apply k_invX_exit | apply t_block | apply m_nil | (with_reducible intro hc; with_reducible exact Bool.noConfusion hc) | (with_reducible intro hc; replace hC := And.intro hC hc))
    all_goals ((first | refine cpendE rs27 ?_ | refine cpendNE rs27 ?_); ((try simp only [encU]) <;> exact fin_eq))
end Go.Proofs.Ythdgdngdfijfhaa
namespace Go.Proofs.Ythdgdngdfijfhaa
open Go.RowKit Go.Proofs
set_option linter.unusedVariables false
set_option linter.unusedSimpArgs false
attribute [local irreducible] PPure CallN Tops TopsDm T
def acts0 : List Ac := [⟨1, 0, [65, 66]⟩, ⟨1, 0, []⟩, ⟨4, 0, []⟩]
def u1 : Un := ⟨0, 0, [[65, 66], []], [], [], true, 3⟩
theorem run0 : runG zeU acts0 = (((u1, [⟨0, [], 0⟩, ⟨0, [], 0⟩, ⟨0, [], 0⟩]), 3), 0) := by kernel_rfl
def s0 : List UInt8 := (bytesG u1).1
theorem bytes0 : (bytesG u1).2 = 0 := by kernel_rfl
theorem len0 : (s0.length : Int) = 26 := by kernel_rfl
theorem done0 : (doneG u1 ⟨0, 0, []⟩).2 = 0 ∧ (doneG u1 ⟨0, 0, []⟩).1.2.status = 1 := ⟨by kernel_rfl, by kernel_rfl⟩
theorem open0 : (openF 0 0 s0).2 = 0 ∧ (openF 0 0 s0).1.2 = 0 ∧ (openF 0 0 s0).1.1.ended = true ∧ (openF 0 0 s0).1.1.recs = [[65, 66], []] := ⟨by kernel_rfl, by kernel_rfl, by kernel_rfl, by kernel_rfl⟩
theorem sum0 : ((sumF [82, 0, 0, 0] : Nat) : Int) = 92 := by kernel_rfl
theorem p49 : PPure Try.prog 49 [] (.list .any (acts0.map encAc)) := by
  simp only [acts0, List.map_cons, List.map_nil, encAc]
  (refine ppure_of_T ok49 (by simp only [List.length_cons, List.length_nil]; decide) ?_; refine t_seq ?_)
  (have hA := True.intro; have hP := True.intro; have hNE := True.intro; have hC := True.intro; repeat' first
      | with_reducible first | refine k_seq ?_ | refine t_seq ?_ | refine t_reg ?_ | refine t_nil ?_ | refine t_ret ?_
      | refine ae_val ?_)
  (first | apply pend rs49 | apply pendN rs49); (focus (simp only [go_sem]; first | done | exact rfl)); (focus (simp only [go_sem]; first | done | exact rfl))
attribute [local go_sem] List.length_cons List.length_nil in
set_option maxHeartbeats 2000000 in
theorem p11 : PPure Try.prog 11 [] (.bool true) := by
  have h49 := p49
  have h24 := p24 zeU acts0 (by decide) (by decide) (by decide)
  rw [run0] at h24
  have h13 := p13 u1 (by decide) (by decide)
  rw [bytes0] at h13
  have h29 := p29 u1 ⟨0, 0, []⟩ (by decide) (by decide)
  obtain ⟨d1, d2⟩ := done0
  rw [d1] at h29
  obtain ⟨o1, o2, o3, o4⟩ := open0
  have hs0 : (bytesG u1).1 = s0 := rfl
  rw [hs0] at h13
  have h17 := p17z s0 (by have := len0; omega)
  rw [o1, o2] at h17
  have h21 := p21 [82, 0, 0, 0] (by decide)
  rw [if_pos (by decide), if_pos (by decide), sum0] at h21
  have h47 := p47 [[65, 66], []] [[65, 66], []] (by decide)
  rw [show (([[65, 66], []] : List (List UInt8)) == [[65, 66], []]) = true from rfl] at h47
  have hl := len0
  generalize s0 = s at h13 h17 hl o3 o4
  generalize (doneG u1 ⟨0, 0, []⟩).1 = q at h29 d2
  generalize (openF 0 0 s).1.1 = v at h17 o3 o4
  simp only [encU, encAc, encAn, acts0, List.map_cons, List.map_nil, d2, o3, o4, encS, zeU, u1] at h49 h24 h13 h29 h17 h47
  (refine ppure_of_T ok11 (by simp only [List.length_cons, List.length_nil]; decide) ?_; refine t_seq ?_)
  (have hA := hl; have hP := And.intro h49 (And.intro h24 (And.intro h13 (And.intro h29 (And.intro h17 (And.intro h21 (And.intro h47 (True.intro))))))); have hNE := True.intro; have hC := True.intro; repeat' first
      | with_reducible first | refine k_seq ?_ | refine t_seq ?_ | refine t_reg ?_ | refine t_nil ?_ | refine t_ret ?_
      | refine ae_val ?_
      | refine ae_callS ?_
      | refine ae_gval ?_
      | refine ae_gcallO ?_
      | (refine ae_alloc ?_; intro la ha hn1; have hNE := And.intro hNE hn1)
      | refine ae_store ?_)
  (first | apply pend rs11 | apply pendN rs11); (focus (simp (maxDischargeDepth := 8) only [hNE, go_sem]; first | done | exact rfl)); (focus (simp (maxDischargeDepth := 8) only [hNE, go_sem]; first | done | exact rfl))
end Go.Proofs.Ythdgdngdfijfhaa
namespace Go.Proofs.Ythdgdngdfijfhaa
open Go.ChangeShapes Go.WideShapes Go.ChangeAt Go.RowKit Go.Deep Go.Proofs
set_option linter.unusedVariables false
set_option linter.unusedSimpArgs false
def ptU : PT := .seq (.int .i64) (.seq (.int .i64) (.seq (.list false .str) (.seq (.list false .bool) (.seq .str (.seq .bool (.seq (.int .i64) .unit))))))
def ptE : PT := .seq (.int .i64) (.seq (.int .i64) (.seq .str .unit))
theorem tvStr {l : List PV} (h : TV (.list false .str) l) : ∃ xs : List (List UInt8), l = [.list .any (xs.map encS)] ∧ xs.length ≤ maxLen :=
  TV_list (r := false) (fun x h1 _ h3 => by
    rw [h3 rfl] at h1
    obtain ⟨s, e, _⟩ := h1
    exact ⟨s, by simpa [encS, encB] using e⟩) h
theorem tvBool {l : List PV} (h : TV (.list false .bool) l) : ∃ xs : List Bool, l = [.list .any (xs.map encB)] ∧ xs.length ≤ maxLen :=
  TV_list (r := false) (fun x h1 _ h3 => by
    rw [h3 rfl] at h1
    obtain ⟨s, e⟩ := h1
    exact ⟨s, by simpa [encS, encB] using e⟩) h
theorem tvU (l : List PV) (h : TV ptU l) : ∃ u : Un, PV.agg l = encU u ∧ u.bytes.length ≤ maxLen := by
  obtain ⟨_, _, rfl, ⟨a, rfl, _⟩, _, _, rfl, ⟨b, rfl, _⟩, _, _, rfl, h1, _, _, rfl, h2, _, _, rfl, ⟨c, rfl, hc⟩, _, _, rfl, ⟨d, rfl⟩, _, _, rfl, ⟨e, rfl, _⟩, rfl⟩ := h
  obtain ⟨xs, rfl, _⟩ := tvStr h1
  obtain ⟨ys, rfl, _⟩ := tvBool h2
  exact ⟨⟨a, b, xs, ys, c, d, e⟩, rfl, hc⟩
theorem tvAc (l : List PV) (h : TV ptE l) : ∃ a : Ac, PV.agg l = encAc a := by
  obtain ⟨_, _, rfl, ⟨a, rfl, _⟩, _, _, rfl, ⟨b, rfl, _⟩, _, _, rfl, ⟨c, rfl, hc⟩, rfl⟩ := h
  exact ⟨⟨a, b, c⟩, rfl⟩
theorem okT25 : okT Try.prog 9 25 ptU = true := by kernel_rfl
theorem okT44 : okT Try.prog 9 44 (.list true ptE) = true := by kernel_rfl
section
variable {H : Type} {enc : TypeId × Value → H} {w : World} {r : Reach} {b0 : Nat} {base : Nat} {sp : Nat → Bool} {held : Bool} {v : Value} {d : DataW H} {ps : List MemPlace}
set_option maxRecDepth 100000 in
theorem arg25 (hv : Value.okWide Try.prog w r b0 25 v) (h : DataW.Trod enc Try.prog w base sp held 25 v d ps) : ∃ u : Un, u.bytes.length ≤ maxLen ∧ VR w noO v (encU u) := by
  obtain ⟨q, hT, hq⟩ := arg_struct (T := ptU) 9 Try.underlying25 okT25 hv h
  obtain ⟨p, e, hb⟩ := tvU q hT
  rw [e] at hq
  exact ⟨p, hb, hq⟩
set_option maxRecDepth 100000 in
theorem arg44 (hv : Value.okWide Try.prog w r b0 44 v) (h : DataW.Trod enc Try.prog w base sp held 44 v d ps) : ∃ l : List Ac, VR w noO v (.list .any (l.map encAc)) := by
  obtain ⟨q, hT, hq⟩ := arg_slice (T := .list true ptE) 9 u_44 okT44 hv h
  obtain ⟨l, e, _⟩ := TV_rows tvAc hT
  obtain rfl : q = _ := by simpa using e
  exact ⟨l, hq⟩
end
theorem ownKn : ownKnob Try.prog.godebug = none := by kernel_rfl
theorem laidOut : laidOutB Try.prog = true := by kernel_rfl
end Go.Proofs.Ythdgdngdfijfhaa
namespace Go.Proofs.Ythdgdngdfijfhaa
open Go.RowKit Go.Proofs
set_option linter.unusedVariables false
set_option linter.unusedSimpArgs false
def slot1 (w n : Nat) (x : List UInt8 × Bool) : List UInt8 := if x.2 = true then sltF n x.1 else List.replicate (w + 4) 0
def sl (w : Nat) : List (List UInt8 × Bool) → Nat → List UInt8
  | [], _ => []
  | x :: r, n => slot1 w n x ++ sl w r (n + 1)
theorem sl_snoc (w : Nat) : ∀ (A : List (List UInt8 × Bool)) (x : List UInt8 × Bool) (n : Nat), sl w (A ++ [x]) n = sl w A n ++ slot1 w (n + A.length) x
  | [], x, n => by simp [sl]
  | y :: A, x, n => by simp only [List.cons_append, sl, sl_snoc w A x (n + 1), List.append_assoc, List.length_cons, show n + 1 + A.length = n + (A.length + 1) by omega]
def okR (w : Nat) (x : List UInt8 × Bool) : Prop := if x.2 = true then x.1.length = w else x.1 = []
theorem slot1_len (w n : Nat) (x : List UInt8 × Bool) (h : okR w x) : (slot1 w n x).length = w + 4 := by
  unfold okR at h
  unfold slot1
  split
  · rename_i e; rw [if_pos e] at h; rw [sltF_len, h]
  · simp
theorem sl_len (w : Nat) : ∀ (R : List (List UInt8 × Bool)) (n : Nat), (∀ x ∈ R, okR w x) → (sl w R n).length = R.length * (w + 4)
  | [], n, _ => by simp [sl]
  | x :: R, n, hx => by
    rw [sl, List.length_append, slot1_len w n x (hx x List.mem_cons_self), sl_len w R (n + 1) (fun y hy => hx y (List.mem_cons_of_mem _ hy)), List.length_cons, Nat.add_mul]; omega
theorem slots_sl (u : Un) (w : Nat) (hw : u.width = (w : Int)) (ht : u.there.length = u.recs.length) : ∀ m, m ≤ u.recs.length → slotsN u m = sl w ((u.recs.zip u.there).take m) 1
  | 0, _ => by simp [slotsN, sl]
  | m + 1, h => by
    have h1 : m < u.recs.length := by omega
    have h2 : m < u.there.length := by omega
    have hz : (u.recs.zip u.there)[m]? = some (u.recs[m], u.there[m]) := by simp [List.getElem?_zip_eq_some, List.getElem?_eq_getElem h1, List.getElem?_eq_getElem h2]
    rw [slotsN, slots_sl u w hw ht m (by omega), List.take_add_one, hz, Option.toList_some, sl_snoc]
    congr 1
    have hl : (List.take m (u.recs.zip u.there)).length = m := by simp [ht]; omega
    rw [hl, slotAt, List.getElem?_eq_getElem h1, List.getElem?_eq_getElem h2, slot1, show u.width.toNat = w by omega, Nat.add_comm 1 m]
    cases u.there[m] <;> simp
end Go.Proofs.Ythdgdngdfijfhaa
namespace Go.Proofs.Ythdgdngdfijfhaa
open Go.RowKit Go.Proofs
set_option linter.unusedVariables false
set_option linter.unusedSimpArgs false
attribute [local irreducible] PPure CallN Tops TopsDm T
theorem few_len {u : Un} (h : fewB u = true) : u.recs.length ≤ 64 ∧ u.there.length ≤ 64 := by
  unfold fewB at h
  simp at h
  omega
theorem runL_valid : ∀ (l : List Ac) (u : Un), Vu u → (∀ a ∈ l, actE a = 0) → Vu (runL u l).1
  | [], u, h, _ => h
  | a :: l, u, h, ha => runL_valid l _ (done_valid h (ha a List.mem_cons_self)) (fun b hb => ha b (List.mem_cons_of_mem _ hb))
theorem actsE_zero {l : List Ac} (h : (actsE l).2 = 0) : l.length ≤ 60 ∧ ∀ a ∈ l, actE a = 0 := by
  unfold actsE at h
  split at h
  · cases h
  · exact ⟨by omega, (actsL_zero l 0).1 h⟩
end Go.Proofs.Ythdgdngdfijfhaa
namespace Go.Proofs.Ythdgdngdfijfhaa
open Go.RowKit Go.Proofs
set_option linter.unusedVariables false
set_option linter.unusedSimpArgs false
attribute [local irreducible] PPure CallN Tops TopsDm T
attribute [local go_sem] encS in
set_option maxHeartbeats 8000000 in
theorem p82 (u v : Un) (a : Ac) (h : Vu u) (h2 : Vu v) (hok : evOK u a v) : PPure Try.prog 82 [encU u, encU v, encAc a] (.list .any ((evF u a v).map encEv)) := by
  have h18 := p18 u h
  have h18v := p18 v h2
  have hb1 := bytesF_len h
  have hb2 := bytesF_len h2
  obtain ⟨n1, n2, n3, n4⟩ := Vu_len h
  by_cases hk : a.kind = 6
  · have hs : evF u a v = [⟨2, 0, []⟩] := by rw [evF, if_pos hk]
    rw [hs]
    simp only [encU, encAc] at h18 h18v ⊢
    (refine ppure_of_T ok82 (by simp only [List.length_cons, List.length_nil]; decide) ?_; refine t_seq ?_)
    have hNE := True.intro; have hC := True.intro; have hA := True.intro; have hP := True.intro
    (replace hA := True.intro; replace hP := And.intro h18 (And.intro h18v (True.intro)); repeat' first | ((with_reducible apply gt_call); first | refine ce_callS ?_ | refine ce_callO ?_) | ((with_reducible apply gt_alloc); (refine ce_alloc ?_; intro la ha hn1; replace hNE := And.intro hNE hn1)) | ((with_reducible apply gt_box); refine ce_box ?_) | ((with_reducible apply gt_store); refine ce_store ?_) | ((with_reducible apply gd_call); first | refine de_callS ?_ | refine de_callO ?_) | ((with_reducible apply gt_cond); first | refine c_cond ?_ ?_ | refine c_condB ?_ ?_) | ((with_reducible apply gt_any); refine ce_val ?_) | ((with_reducible apply gd_any); refine de_val ?_) | ((with_reducible apply gt_drw); first | refine ce_drwA ?_ | refine ce_drwE ?_ | refine ce_drwK ?_ | refine ce_drwZ ?_) | with_reducible first | apply k_seq | apply t_seq | apply t_reg | apply t_nil | apply t_skip | apply t_ret | apply t_exit | apply k_seq_exit | apply k_seq_ret | apply k_blk_exit | refine k_blk_other (by decide) ?_ | apply k_blk_ret | apply k_blk | apply t_block | apply m_nil | (with_reducible intro hc; with_reducible exact Bool.noConfusion hc) | (with_reducible intro hc; replace hC := And.intro hC hc))
    all_goals ((first | refine cpendE rs82 ?_ | refine cpendNE rs82 ?_); ((try simp only [encEv]) <;> exact fin_eq))
  by_cases he : bytesF u = bytesF v
  · have hs : evF u a v = [] := by rw [evF, if_neg hk, if_pos he]
    rw [hs]
    rw [he] at h18
    simp only [encU, encAc] at h18 h18v ⊢
    (refine ppure_of_T ok82 (by simp only [List.length_cons, List.length_nil]; decide) ?_; refine t_seq ?_)
    have hNE := True.intro; have hC := True.intro; have hA := True.intro; have hP := True.intro
    (replace hA := True.intro; replace hP := And.intro h18 (And.intro h18v (True.intro)); repeat' first | ((with_reducible apply gt_call); first | refine ce_callS ?_ | refine ce_callO ?_) | ((with_reducible apply gt_alloc); (refine ce_alloc ?_; intro la ha hn1; replace hNE := And.intro hNE hn1)) | ((with_reducible apply gt_box); refine ce_box ?_) | ((with_reducible apply gt_store); refine ce_store ?_) | ((with_reducible apply gd_call); first | refine de_callS ?_ | refine de_callO ?_) | ((with_reducible apply gt_cond); first | refine c_cond ?_ ?_ | refine c_condB ?_ ?_) | ((with_reducible apply gt_any); refine ce_val ?_) | ((with_reducible apply gd_any); refine de_val ?_) | ((with_reducible apply gt_drw); first | refine ce_drwA ?_ | refine ce_drwE ?_ | refine ce_drwK ?_ | refine ce_drwZ ?_) | with_reducible first | apply k_seq | apply t_seq | apply t_reg | apply t_nil | apply t_skip | apply t_ret | apply t_exit | apply k_seq_exit | apply k_seq_ret | apply k_blk_exit | refine k_blk_other (by decide) ?_ | apply k_blk_ret | apply k_blk | apply t_block | apply m_nil | (with_reducible intro hc; with_reducible exact Bool.noConfusion hc) | (with_reducible intro hc; replace hC := And.intro hC hc))
    all_goals ((first | refine cpendE rs82 ?_ | refine cpendNE rs82 ?_); ((try simp only [encEv]) <;> exact fin_eq))
  obtain ⟨bu, hbu⟩ : ∃ b, bytesF u = b := ⟨_, rfl⟩
  obtain ⟨bv, hbv⟩ : ∃ b, bytesF v = b := ⟨_, rfl⟩
  by_cases ha2 : u.access = 2
  · have hs : evF u a v = [⟨0, u.pos, a.bytes⟩] := by rw [evF, if_neg hk, if_neg he, if_pos ha2]
    rw [hs]
    rw [hbu] at h18 he
    rw [hbv] at h18v he
    simp only [encU, encAc] at h18 h18v ⊢
    (refine ppure_of_T ok82 (by simp only [List.length_cons, List.length_nil]; decide) ?_; refine t_seq ?_)
    have hNE := True.intro; have hC := True.intro; have hA := True.intro; have hP := True.intro
    (replace hA := he; replace hP := And.intro h18 (And.intro h18v (True.intro)); repeat' first | ((with_reducible apply gt_call); first | refine ce_callS ?_ | refine ce_callO ?_) | ((with_reducible apply gt_alloc); (refine ce_alloc ?_; intro la ha hn1; replace hNE := And.intro hNE hn1)) | ((with_reducible apply gt_box); refine ce_box ?_) | ((with_reducible apply gt_store); refine ce_store ?_) | ((with_reducible apply gd_call); first | refine de_callS ?_ | refine de_callO ?_) | ((with_reducible apply gt_cond); first | refine c_cond ?_ ?_ | refine c_condB ?_ ?_) | ((with_reducible apply gt_any); refine ce_val ?_) | ((with_reducible apply gd_any); refine de_val ?_) | ((with_reducible apply gt_drw); first | refine ce_drwA ?_ | refine ce_drwE ?_ | refine ce_drwK ?_ | refine ce_drwZ ?_) | with_reducible first | apply k_seq | apply t_seq | apply t_reg | apply t_nil | apply t_skip | apply t_ret | apply t_exit | apply k_seq_exit | apply k_seq_ret | apply k_blk_exit | refine k_blk_other (by decide) ?_ | apply k_blk_ret | apply k_blk | apply t_block | apply m_nil | (with_reducible intro hc; with_reducible exact Bool.noConfusion hc) | (with_reducible intro hc; replace hC := And.intro hC hc))
    all_goals ((first | refine cpendE rs82 ?_ | refine cpendNE rs82 ?_); ((try simp only [encEv]) <;> exact fin_eq))
  by_cases ha1 : u.access = 1
  · obtain ⟨m1, m2, m3⟩ : 1 ≤ a.number ∧ a.number ≤ 60 ∧ atF u a + (u.width.toNat + 4) ≤ (bytesF v).length := by
      rcases hok with h | h | h | ⟨_, h1, h2, h3⟩ | ⟨h, _⟩
      · omega
      · exact absurd h he
      · omega
      · exact ⟨h1, h2, h3⟩
      · omega
    have hww : 1 ≤ u.width ∧ u.width ≤ 200 := by
      obtain ⟨h, _⟩ | ⟨_, h1, h2, _⟩ | ⟨h, _⟩ := h
      · omega
      · exact ⟨h1, h2⟩
      · omega
    obtain ⟨N, hN⟩ : ∃ N : Nat, a.number = ((N + 1 : Nat) : Int) := ⟨(a.number - 1).toNat, by omega⟩
    obtain ⟨W, hW⟩ : ∃ W : Nat, u.width = (W : Int) := ⟨u.width.toNat, by omega⟩
    have hat : atF u a = N * (W + 4) := by rw [atF, show a.number.toNat - 1 = N by omega, show u.width.toNat = W by omega]
    have hat2 : N * (W + 4) ≤ 59 * 204 := Nat.mul_le_mul (by omega) (by omega)
    have hn1 : ((N + 1 : Nat) : Int) - 1 = (N : Int) := by omega
    have hs : evF u a v = (if (bytesF u).length < atF u a then [⟨0, ((bytesF u).length : Nat), List.replicate (atF u a - (bytesF u).length) 0⟩] else []) ++
      [⟨0, (atF u a : Nat), ((bytesF v).take (atF u a + (u.width.toNat + 4))).drop (atF u a)⟩] := by rw [evF, if_neg hk, if_neg he, if_neg ha2, if_pos ha1]
    rw [hs, show u.width.toNat = W by omega]
    rw [show u.width.toNat = W by omega] at m3
    rw [hat] at m3 ⊢
    generalize hT : N * (W + 4) = T at hat2 m3 ⊢
    have hT2 : (N : Int) * ((W + 4 : Nat) : Int) = (T : Int) := by rw [← hT]; rfl
    have h65 := p65 (T - bu.length) (by omega)
    rw [hbu] at h18 he hb1 ⊢
    rw [hbv] at h18v he m3 hb2 ⊢
    simp only [encU, encAc, hN, hW] at h18 h18v ⊢
    by_cases hlt : bu.length < T
    · have hsb : (T : Int) - (bu.length : Int) = ((T - bu.length : Nat) : Int) := by omega
      (refine ppure_of_T ok82 (by simp only [List.length_cons, List.length_nil]; decide) ?_; refine t_seq ?_)
      have hNE := True.intro; have hC := True.intro; have hA := True.intro; have hP := True.intro
      (replace hA := And.intro he (And.intro hn1 (And.intro hT2 (hsb))); replace hP := And.intro h18 (And.intro h18v (And.intro h65 (True.intro))); repeat' first | ((with_reducible apply gt_call); first | refine ce_callS ?_ | refine ce_callO ?_) | ((with_reducible apply gt_alloc); (refine ce_alloc ?_; intro la ha hn1; replace hNE := And.intro hNE hn1)) | ((with_reducible apply gt_box); refine ce_box ?_) | ((with_reducible apply gt_store); refine ce_store ?_) | ((with_reducible apply gd_call); first | refine de_callS ?_ | refine de_callO ?_) | ((with_reducible apply gt_cond); first | refine c_cond ?_ ?_ | refine c_condB ?_ ?_) | ((with_reducible apply gt_any); refine ce_val ?_) | ((with_reducible apply gd_any); refine de_val ?_) | ((with_reducible apply gt_drw); first | refine ce_drwA ?_ | refine ce_drwE ?_ | refine ce_drwK ?_ | refine ce_drwZ ?_) | with_reducible first | apply k_seq | apply t_seq | apply t_reg | apply t_nil | apply t_skip | apply t_ret | apply t_exit | apply k_seq_exit | apply k_seq_ret | apply k_blk_exit | refine k_blk_other (by decide) ?_ | apply k_blk_ret | apply k_blk | apply t_block | apply m_nil | (with_reducible intro hc; with_reducible exact Bool.noConfusion hc) | (with_reducible intro hc; replace hC := And.intro hC hc))
      all_goals ((first | refine cpendE rs82 ?_ | refine cpendNE rs82 ?_); ((try simp only [encEv]) <;> exact fin_eq))
    · (refine ppure_of_T ok82 (by simp only [List.length_cons, List.length_nil]; decide) ?_; refine t_seq ?_)
      have hNE := True.intro; have hC := True.intro; have hA := True.intro; have hP := True.intro
      (replace hA := And.intro he (And.intro hn1 (hT2)); replace hP := And.intro h18 (And.intro h18v (And.intro h65 (True.intro))); repeat' first | ((with_reducible apply gt_call); first | refine ce_callS ?_ | refine ce_callO ?_) | ((with_reducible apply gt_alloc); (refine ce_alloc ?_; intro la ha hn1; replace hNE := And.intro hNE hn1)) | ((with_reducible apply gt_box); refine ce_box ?_) | ((with_reducible apply gt_store); refine ce_store ?_) | ((with_reducible apply gd_call); first | refine de_callS ?_ | refine de_callO ?_) | ((with_reducible apply gt_cond); first | refine c_cond ?_ ?_ | refine c_condB ?_ ?_) | ((with_reducible apply gt_any); refine ce_val ?_) | ((with_reducible apply gd_any); refine de_val ?_) | ((with_reducible apply gt_drw); first | refine ce_drwA ?_ | refine ce_drwE ?_ | refine ce_drwK ?_ | refine ce_drwZ ?_) | with_reducible first | apply k_seq | apply t_seq | apply t_reg | apply t_nil | apply t_skip | apply t_ret | apply t_exit | apply k_seq_exit | apply k_seq_ret | apply k_blk_exit | refine k_blk_other (by decide) ?_ | apply k_blk_ret | apply k_blk | apply t_block | apply m_nil | (with_reducible intro hc; with_reducible exact Bool.noConfusion hc) | (with_reducible intro hc; replace hC := And.intro hC hc))
      all_goals ((first | refine cpendE rs82 ?_ | refine cpendNE rs82 ?_); ((try simp only [encEv]) <;> exact fin_eq))
  have ha0 : u.access = 0 := by
    obtain ⟨h, _⟩ | ⟨h, _⟩ | ⟨h, _⟩ := h
    · exact h
    · omega
    · omega
  obtain ⟨hpl, hst⟩ : u.pos ≤ (u.recs.length : Int) ∧ stayF u ≤ (bytesF v).length := by
    rcases hok with h | h | h | ⟨h, _⟩ | ⟨_, h1, h2⟩
    · omega
    · exact absurd h he
    · omega
    · omega
    · exact ⟨h1, h2⟩
  obtain ⟨p, hpp⟩ : ∃ p : Nat, u.pos = (p : Int) := ⟨u.pos.toNat, by omega⟩
  have hsr : ∀ s ∈ u.recs, s.length ≤ 200 := by
    obtain ⟨_, _, _, hs, _⟩ | ⟨h, _⟩ | ⟨h, _⟩ := h
    · exact hs
    · omega
    · omega
  have hfl : ∀ i, (framesF (u.recs.take i)).length ≤ 1000000 := by
    intro i
    have := framesF_len 200 (u.recs.take i) (fun s hm => hsr s (List.mem_of_mem_take hm))
    have h1 : (u.recs.take i).length ≤ 60 := by rw [List.length_take]; omega
    have := Nat.mul_le_mul_right 208 h1
    omega
  have hsu : stayF u ≤ (bytesF u).length := by
    have e1 : bytesF u = framesF u.recs ++ (if u.ended = true then frmF 69 [] else []) := by simp [bytesF, ha0]
    have e2 := framesF_append (u.recs.take u.pos.toNat) (u.recs.drop u.pos.toNat)
    rw [List.take_append_drop] at e2
    rw [e1, e2, stayF]
    simp only [List.length_append]
    omega
  have hs : evF u a v = (if stayF u < (bytesF u).length then [⟨1, (stayF u : Nat), []⟩] else []) ++ [⟨0, (stayF u : Nat), (bytesF v).drop (stayF u)⟩] := by rw [evF, if_neg hk, if_neg he, if_neg ha2, if_neg ha1]
  obtain ⟨st, hst2⟩ : ∃ st, stayF u = st := ⟨_, rfl⟩
  have hsf : (framesF (u.recs.take p)).length = st := by rw [← hst2, stayF, show u.pos.toNat = p by omega]
  rw [hs]
  rw [hbu] at h18 he hsu hb1 ⊢
  rw [hbv] at h18v he hst hb2 ⊢
  rw [hst2] at hst hsu ⊢
  simp only [encU, encAc, hpp] at h18 h18v ⊢
  (refine ppure_of_T ok82 (by simp only [List.length_cons, List.length_nil]; decide) ?_; refine t_seq ?_)
  have hNE := True.intro; have hC := True.intro; have hA := True.intro; have hP := True.intro
  (replace hA := he; replace hP := And.intro h18 (And.intro h18v (True.intro)); repeat' first | ((with_reducible apply gt_call); first | refine ce_callS ?_ | refine ce_callO ?_) | ((with_reducible apply gt_alloc); (refine ce_alloc ?_; intro la ha hn1; replace hNE := And.intro hNE hn1)) | ((with_reducible apply gt_box); refine ce_box ?_) | ((with_reducible apply gt_store); refine ce_store ?_) | ((with_reducible apply gd_call); first | refine de_callS ?_ | refine de_callO ?_) | ((with_reducible apply gt_cond); first | refine c_cond ?_ ?_ | refine c_condB ?_ ?_) | ((with_reducible apply gt_any); refine ce_val ?_) | ((with_reducible apply gd_any); refine de_val ?_) | ((with_reducible apply gt_drw); first | refine ce_drwA ?_ | refine ce_drwE ?_ | refine ce_drwK ?_ | refine ce_drwZ ?_) | with_reducible first | apply k_seq | apply t_seq | apply t_reg | apply t_nil | apply t_skip | apply t_ret | apply t_exit | apply k_seq_exit | apply k_seq_ret | apply k_blk_exit | refine k_blk_other (by decide) ?_ | apply k_blk_ret | apply k_blk | apply t_block | apply m_nil | (with_reducible intro hc; with_reducible exact Bool.noConfusion hc) | (with_reducible intro hc; replace hC := And.intro hC hc))
  refine t_loopX (fun (k1 : Nat) (E1 : Nat → PV) (H1 : Hp) => ∃ (i : Nat), i + k1 = p ∧ (E1 10 = .int .i64 (i : Int) ∧ E1 9 = .int .i64 ((framesF (u.recs.take i)).length : Int)) ∧ H1 = hp []) (p) ?_ ?_
  intro Ng
  refine ⟨_, _, wkE_id, (by repeat' first | exact rowsok_nil | refine rowsok_cons ?_ ?_ | exact rowok_ghost (by assumption) | exact rowA | ((try simp only [cast0, List.take_zero, framesF]) <;> exact rowA)), 0, (by first | omega | rfl | assumption | (first | exact lv_eq | ((try simp only [cast0, List.take_zero, framesF]) <;> exact lv_eq) | (simp (maxDischargeDepth := 8) only [go_sem, hNE, hA, cast0, List.take_zero, framesF, List.length_append, List.length_cons, List.length_nil, Nat.zero_add]; first | done | rfl))), (by (repeat' apply And.intro) <;> first | exact lv_eq | ((try simp only [cast0, List.take_zero, framesF]) <;> exact lv_eq) | (simp (maxDischargeDepth := 8) only [go_sem, hNE, hA, cast0, List.take_zero, framesF, List.length_append, List.length_cons, List.length_nil, Nat.zero_add]; first | done | rfl)), rfl⟩
  rintro k1 E1 H1 hfr1 ⟨i, hik, ⟨h1_10, h1_9⟩, rfl⟩
  have e1_3 := hfr1 3 rfl; have e1_5 := hfr1 5 rfl; have e1_6 := hfr1 6 rfl; have e1_7 := hfr1 7 rfl; have e1_8 := hfr1 8 rfl
  simp (maxDischargeDepth := 8) only [go_sem, cast0, List.take_zero, framesF, hNE] at e1_3 e1_5 e1_6 e1_7 e1_8
  clear hfr1
  by_cases hi : i < p
  · have hi2 : i < u.recs.length := by omega
    have hxl := hsr _ (List.getElem_mem hi2)
    have h63 := p63 82 u.recs[i] (by omega)
    have hfx : (frmF 82 u.recs[i]).length = u.recs[i].length + 8 := frmF_len _ _
    have hfi := hfl i
    have e2 : (framesF (u.recs.take (i + 1))).length = (framesF (u.recs.take i)).length + (frmF 82 u.recs[i]).length := by rw [framesF_in hi2, List.length_append]
    (replace hA := And.intro e1_3 (And.intro e1_5 (And.intro e1_6 (And.intro e1_7 (And.intro e1_8 (And.intro h1_10 (h1_9)))))); replace hP := And.intro h63 (True.intro); repeat' first | ((with_reducible apply gt_call); first | refine ce_callS ?_ | refine ce_callO ?_) | ((with_reducible apply gt_alloc); (refine ce_alloc ?_; intro la ha hn1; replace hNE := And.intro hNE hn1)) | ((with_reducible apply gt_box); refine ce_box ?_) | ((with_reducible apply gt_store); refine ce_store ?_) | ((with_reducible apply gd_call); first | refine de_callS ?_ | refine de_callO ?_) | ((with_reducible apply gt_cond); first | refine c_cond ?_ ?_ | refine c_condB ?_ ?_) | ((with_reducible apply gt_any); refine ce_val ?_) | ((with_reducible apply gd_any); refine de_val ?_) | ((with_reducible apply gt_drw); first | refine ce_drwA ?_ | refine ce_drwE ?_ | refine ce_drwK ?_ | refine ce_drwZ ?_) | with_reducible first | apply k_seq | apply t_seq | apply t_reg | apply t_nil | apply t_skip | apply t_ret | apply t_exit | apply k_seq_exit | apply k_seq_ret | apply k_blk_exit | refine k_blk_other (by decide) ?_ | apply k_blk_ret | apply k_blk | apply k_invX_ret | apply k_invX_exit | apply t_block | apply m_nil | (with_reducible intro hc; with_reducible exact Bool.noConfusion hc) | (with_reducible intro hc; replace hC := And.intro hC hc))
    refine k_invX (k1 - 1) (by omega) ?_
    intro Ng
    replace hA := And.intro hA (And.intro e1_3 (And.intro e1_5 (And.intro e1_6 (And.intro e1_7 (And.intro e1_8 (And.intro h1_10 (And.intro h1_9 (e2))))))))
    refine ⟨_, _, wkE_id, (by repeat' first | exact rowsok_nil | refine rowsok_cons ?_ ?_ | exact rowok_ghost (by assumption) | exact rowA), i + 1, (by first | omega | (simp only [List.length_append, List.length_cons, List.length_nil, List.length_drop, List.length_take, List.length_map]; omega)), (by (repeat' apply And.intro) <;> exact lv_eq), rfl⟩
  · have hip : i = p := by omega
    subst hip
    by_cases hlt : st < bu.length
    · (replace hA := And.intro e1_3 (And.intro e1_5 (And.intro e1_6 (And.intro e1_7 (And.intro e1_8 (And.intro h1_10 (And.intro h1_9 (hsf))))))); replace hP := True.intro; repeat' first | ((with_reducible apply gt_call); first | refine ce_callS ?_ | refine ce_callO ?_) | ((with_reducible apply gt_alloc); (refine ce_alloc ?_; intro la ha hn1; replace hNE := And.intro hNE hn1)) | ((with_reducible apply gt_box); refine ce_box ?_) | ((with_reducible apply gt_store); refine ce_store ?_) | ((with_reducible apply gd_call); first | refine de_callS ?_ | refine de_callO ?_) | ((with_reducible apply gt_cond); first | refine c_cond ?_ ?_ | refine c_condB ?_ ?_) | ((with_reducible apply gt_any); refine ce_val ?_) | ((with_reducible apply gd_any); refine de_val ?_) | ((with_reducible apply gt_drw); first | refine ce_drwA ?_ | refine ce_drwE ?_ | refine ce_drwK ?_ | refine ce_drwZ ?_) | with_reducible first | apply k_seq | apply t_seq | apply t_reg | apply t_nil | apply t_skip | apply t_ret | apply t_exit | apply k_seq_exit | apply k_seq_ret | apply k_blk_exit | refine k_blk_other (by decide) ?_ | apply k_blk_ret | apply k_blk | apply k_invX_ret | apply k_invX_exit | apply t_block | apply m_nil | (with_reducible intro hc; with_reducible exact Bool.noConfusion hc) | (with_reducible intro hc; replace hC := And.intro hC hc))
      all_goals ((first | refine cpendE rs82 ?_ | refine cpendNE rs82 ?_); ((try simp only [encEv]) <;> exact fin_eq))
    · (replace hA := And.intro e1_3 (And.intro e1_5 (And.intro e1_6 (And.intro e1_7 (And.intro e1_8 (And.intro h1_10 (And.intro h1_9 (hsf))))))); replace hP := True.intro; repeat' first | ((with_reducible apply gt_call); first | refine ce_callS ?_ | refine ce_callO ?_) | ((with_reducible apply gt_alloc); (refine ce_alloc ?_; intro la ha hn1; replace hNE := And.intro hNE hn1)) | ((with_reducible apply gt_box); refine ce_box ?_) | ((with_reducible apply gt_store); refine ce_store ?_) | ((with_reducible apply gd_call); first | refine de_callS ?_ | refine de_callO ?_) | ((with_reducible apply gt_cond); first | refine c_cond ?_ ?_ | refine c_condB ?_ ?_) | ((with_reducible apply gt_any); refine ce_val ?_) | ((with_reducible apply gd_any); refine de_val ?_) | ((with_reducible apply gt_drw); first | refine ce_drwA ?_ | refine ce_drwE ?_ | refine ce_drwK ?_ | refine ce_drwZ ?_) | with_reducible first | apply k_seq | apply t_seq | apply t_reg | apply t_nil | apply t_skip | apply t_ret | apply t_exit | apply k_seq_exit | apply k_seq_ret | apply k_blk_exit | refine k_blk_other (by decide) ?_ | apply k_blk_ret | apply k_blk | apply k_invX_ret | apply k_invX_exit | apply t_block | apply m_nil | (with_reducible intro hc; with_reducible exact Bool.noConfusion hc) | (with_reducible intro hc; replace hC := And.intro hC hc))
      all_goals ((first | refine cpendE rs82 ?_ | refine cpendNE rs82 ?_); ((try simp only [encEv]) <;> exact fin_eq))
end Go.Proofs.Ythdgdngdfijfhaa
namespace Go.Proofs.Ythdgdngdfijfhaa
open Go.RowKit Go.Proofs
set_option linter.unusedVariables false
set_option linter.unusedSimpArgs false
attribute [local irreducible] PPure CallN Tops TopsDm T
theorem evsF_take {l : List Ac} {i : Nat} (hi : i < l.length) (u : Un) : evsF u (l.take (i + 1)) = evS (evsF u (l.take i)) l[i] := by
  rw [take_in hi, evsF, List.foldl_append, List.foldl_cons, List.foldl_nil]; rfl
attribute [local go_sem] encAc in
set_option maxHeartbeats 8000000 in
theorem p42 (u : Un) (l : List Ac) (h : Vu u) (hacts : ∀ a ∈ l, actE a = 0) (hll : l.length ≤ 1000) :
    PPure Try.prog 42 [encU u, .list .any (l.map encAc)] (.tup [.list .any ((evsF u l).2.1.map encEv), .list .any ((evsF u l).2.2.map encI)]) := by
  obtain ⟨R, hR⟩ : ∃ R, evsF u l = R := ⟨_, rfl⟩
  rw [hR]
  simp only [encU]
  (refine ppure_of_T ok42 (by simp only [List.length_cons, List.length_nil]; decide) ?_; refine t_seq ?_)
  have hNE := True.intro; have hC := True.intro; have hA := True.intro; have hP := True.intro
  (replace hA := True.intro; replace hP := True.intro; repeat' first | ((with_reducible apply gt_box); (refine ce_boxL ?_; intro la ha hn1; replace hNE := And.intro hNE hn1)) | ((with_reducible apply gt_store); refine ce_store ?_) | ((with_reducible refine gt_appT app_81 ?_); first | refine ce_appendE app_81 c_3 ?_ | (refine ce_appendL app_81 c_3 ?_; intro la ha hn1; replace hNE := And.intro hNE hn1) | refine ce_append app_81 c_3 ?_ ?_ | (refine ce_appendB app_81 c_3 ?_; intro la ha hn1; replace hNE := And.intro hNE hn1)) | ((with_reducible apply gd_call); first | refine de_callS ?_ | refine de_callO ?_) | ((with_reducible apply gd_alloc); (refine de_alloc ?_; intro la ha hn1; replace hNE := And.intro hNE hn1)) | ((with_reducible apply gd_store); first | refine de_store ?_ | refine de_storeZ ?_) | ((with_reducible refine gd_appT app_67 ?_); first | (refine de_appendU app_67 c_71 ?_; intro la ha hn1; replace hNE := And.intro hNE hn1) | refine de_append app_67 c_71 ?_ ?_ | (refine de_appendL app_67 c_71 ?_; intro la ha hn1; replace hNE := And.intro hNE hn1) | (refine de_appendB app_67 c_71 ?_; intro la ha hn1; replace hNE := And.intro hNE hn1)) | ((with_reducible apply gt_cond); first | refine c_cond ?_ ?_ | refine c_condB ?_ ?_) | ((with_reducible apply gt_any); refine ce_val ?_) | ((with_reducible apply gd_any); refine de_val ?_) | ((with_reducible apply gt_drw); first | refine ce_drwA ?_ | refine ce_drwE ?_ | refine ce_drwK ?_ | refine ce_drwZ ?_) | with_reducible first | apply k_seq | apply t_seq | apply t_reg | apply t_nil | apply t_skip | apply t_ret | apply t_exit | apply k_seq_exit | apply k_seq_ret | apply k_blk_exit | refine k_blk_other (by decide) ?_ | apply k_blk_ret | apply k_blk | apply t_block | apply m_nil | (with_reducible intro hc; with_reducible exact Bool.noConfusion hc) | (with_reducible intro hc; replace hC := And.intro hC hc))
  obtain ⟨lu, h4⟩ : ∃ l, l = la := ⟨la, rfl⟩
  subst h4
  refine t_loopX (fun (k0 : Nat) (E0 : Nat → PV) (H0 : Hp) => ∃ (i : Nat) (x : Un) (es : List Ev) (ms : List Int) (lo : Lab) (lm : Lab), i + k0 = l.length ∧ es.length ≤ 2 * i ∧ ms.length = i ∧ Vu x ∧ evsF u (l.take i) = (x, es, ms) ∧ ((lu = lo) = False ∧ (lo = lu) = False ∧ (lu = lm) = False ∧ (lm = lu) = False ∧ (lo = lm) = False ∧ (lm = lo) = False) ∧ (E0 8 = .int .i64 (i : Int) ∧ E0 6 = .arr lo 3 0 (es.length) ∧ E0 7 = .arr lm 1 0 (ms.length)) ∧ H0 = hp [(lu, .row true 7 ([encU x])), (lo, .row true 3 (es.map encEv)), (lm, .row true 1 (ms.map encI))]) (l.length) ?_ ?_
  intro Ng
  obtain ⟨g_lo, g_lo1, g_lo2⟩ := ghost_new Ng [lu]
  have g_lo3 := (g_lo2 lu (by simp only [List.mem_cons, List.mem_nil_iff, true_or, or_true]))
  obtain ⟨g_lm, g_lm1, g_lm2⟩ := ghost_new Ng [lu, g_lo]
  have g_lm3 := (And.intro (g_lm2 lu (by simp only [List.mem_cons, List.mem_nil_iff, true_or, or_true])) (g_lm2 g_lo (by simp only [List.mem_cons, List.mem_nil_iff, true_or, or_true])))
  replace hA := And.intro hA (And.intro g_lo3 (g_lm3))
  refine ⟨_, _, (wkE_upd (t := 7) (v := .arr g_lm 1 0 0) (wkE_upd (t := 6) (v := .arr g_lo 3 0 0) wkE_id rfl wv_nil) rfl wv_nil), (by repeat' first | exact rowsok_nil | refine rowsok_cons ?_ ?_ | exact rowok_ghost (by assumption) | exact rowA | ((try simp only [cast0, encU, List.map_nil]) <;> exact rowA)), 0, u, [], [], g_lo, g_lm, (by first | omega | rfl | assumption | (first | exact lv_eq | ((try simp only [cast0, encU, List.map_nil]) <;> exact lv_eq) | (simp (maxDischargeDepth := 8) only [go_sem, hNE, hA, cast0, encU, List.map_nil, List.length_append, List.length_cons, List.length_nil, Nat.zero_add]; first | done | rfl))), (by first | omega | rfl | assumption | (first | exact lv_eq | ((try simp only [cast0, encU, List.map_nil]) <;> exact lv_eq) | (simp (maxDischargeDepth := 8) only [go_sem, hNE, hA, cast0, encU, List.map_nil, List.length_append, List.length_cons, List.length_nil, Nat.zero_add]; first | done | rfl))), (by first | omega | rfl | assumption | (first | exact lv_eq | ((try simp only [cast0, encU, List.map_nil]) <;> exact lv_eq) | (simp (maxDischargeDepth := 8) only [go_sem, hNE, hA, cast0, encU, List.map_nil, List.length_append, List.length_cons, List.length_nil, Nat.zero_add]; first | done | rfl))), ?_, ?_, (by (repeat' apply And.intro) <;> exact lv_eq), (by (repeat' apply And.intro) <;> first | exact lv_eq | ((try simp only [cast0, encU, List.map_nil]) <;> exact lv_eq) | (simp (maxDischargeDepth := 8) only [go_sem, hNE, hA, cast0, encU, List.map_nil, List.length_append, List.length_cons, List.length_nil, Nat.zero_add]; first | done | rfl)), rfl⟩
  · exact h
  · rfl
  rintro k0 E0 H0 hfr0 ⟨i, x, es, ms, lo, lm, hk, hel, hml, hv, hr, ⟨d0_0, d0_1, d0_2, d0_3, d0_4, d0_5⟩, ⟨h0_8, h0_6, h0_7⟩, rfl⟩
  have e0_1 := hfr0 1 rfl; have e0_2 := hfr0 2 rfl; have e0_4 := hfr0 4 rfl; have e0_5 := hfr0 5 rfl
  simp (maxDischargeDepth := 8) only [go_sem, cast0, encU, List.map_nil, hNE] at e0_1 e0_2 e0_4 e0_5
  clear hfr0
  have d0 := And.intro d0_0 (And.intro d0_1 (And.intro d0_2 (And.intro d0_3 (And.intro d0_4 (d0_5)))))
  simp only [encU]
  by_cases hi : i < l.length
  · have hai := hacts _ (List.getElem_mem hi)
    obtain ⟨⟨hk0, hk1⟩, hbl, _⟩ := (actE_zero _).1 hai
    have h32 := p32 x l[i] hv hk0 hk1 hbl
    have hv2 := done_valid (a := l[i]) hv hai
    have hok := evOK_done hv hai
    have hr2 := evsF_take hi u
    rw [hr, evS] at hr2
    have h82 : (doneF x l[i]).2.status = 0 → PPure Try.prog 82 [encU x, encU (doneF x l[i]).1, encAc l[i]] (.list .any ((evF x l[i] (doneF x l[i]).1).map encEv)) := fun hst => p82 x _ _ hv hv2 (hok hst)
    have hev := evF_len x l[i] (doneF x l[i]).1
    generalize doneF x l[i] = q at h32 hv2 hr2 h82 hev
    by_cases hst : q.2.status = 0
    · have h82 := h82 hst
      simp only [hst, if_true] at hr2
      generalize evF x l[i] q.1 = ev at h82 hr2 hev
      simp only [encU, encAc, encAn] at h32 h82
      (replace hA := And.intro e0_1 (And.intro e0_2 (And.intro e0_4 (And.intro e0_5 (And.intro h0_8 (And.intro h0_6 (And.intro h0_7 (d0))))))); replace hP := And.intro h32 (And.intro h82 (True.intro)); repeat' first | ((with_reducible apply gt_box); (refine ce_boxL ?_; intro la ha hn1; replace hNE := And.intro hNE hn1)) | ((with_reducible apply gt_store); refine ce_store ?_) | ((with_reducible refine gt_appT app_81 ?_); first | refine ce_appendE app_81 c_3 ?_ | (refine ce_appendL app_81 c_3 ?_; intro la ha hn1; replace hNE := And.intro hNE hn1) | refine ce_append app_81 c_3 ?_ ?_ | (refine ce_appendB app_81 c_3 ?_; intro la ha hn1; replace hNE := And.intro hNE hn1)) | ((with_reducible apply gd_call); first | refine de_callS ?_ | refine de_callO ?_) | ((with_reducible apply gd_alloc); (refine de_alloc ?_; intro la ha hn1; replace hNE := And.intro hNE hn1)) | ((with_reducible apply gd_store); first | refine de_store ?_ | refine de_storeZ ?_) | ((with_reducible refine gd_appT app_67 ?_); first | (refine de_appendQ app_67 c_71 ?_; intro la ha; have hn1 := or_ne ha; replace hNE := And.intro hNE hn1) | (refine de_appendU app_67 c_71 ?_; intro la ha hn1; replace hNE := And.intro hNE hn1) | refine de_append app_67 c_71 ?_ ?_ | (refine de_appendL app_67 c_71 ?_; intro la ha hn1; replace hNE := And.intro hNE hn1) | (refine de_appendB app_67 c_71 ?_; intro la ha hn1; replace hNE := And.intro hNE hn1)) | ((with_reducible apply gt_cond); first | refine c_cond ?_ ?_ | refine c_condB ?_ ?_) | ((with_reducible apply gt_any); refine ce_val ?_) | ((with_reducible apply gd_any); refine de_val ?_) | ((with_reducible apply gt_drw); first | refine ce_drwH lo lm ?_ | refine ce_drwA ?_ | refine ce_drwE ?_ | refine ce_drwK ?_ | refine ce_drwZ ?_) | with_reducible first | apply k_seq | apply t_seq | apply t_reg | apply t_nil | apply t_skip | apply t_ret | apply t_exit | apply k_seq_exit | apply k_seq_ret | apply k_blk_exit | refine k_blk_other (by decide) ?_ | apply k_blk_ret | apply k_blk | apply k_invX_ret | apply k_invX_exit | apply t_block | apply m_nil | (with_reducible intro hc; with_reducible exact Bool.noConfusion hc) | (with_reducible intro hc; replace hC := And.intro hC hc))
      rename_i lo2 _ _
      refine k_invX (k0 - 1) (by omega) ?_
      intro Ng
      replace hA := And.intro hA (And.intro e0_1 (And.intro e0_2 (And.intro e0_4 (And.intro e0_5 (And.intro h0_8 (And.intro h0_6 (And.intro h0_7 (d0))))))))
      refine ⟨_, _, wkE_id, (by repeat' first | exact rowsok_nil | refine rowsok_cons ?_ ?_ | exact rowok_ghost (by assumption) | exact rowA | ((try simp only [encU, encI, List.map_append, take_row]) <;> exact rowA)), i + 1, q.1, es ++ ev, ms ++ [((es ++ ev).length : Int)], lo2, la, (by first | omega | (simp only [List.length_append, List.length_cons, List.length_nil, List.length_drop, List.length_take, List.length_map]; omega)), (by first | omega | (simp only [List.length_append, List.length_cons, List.length_nil, List.length_drop, List.length_take, List.length_map]; omega)), (by first | omega | (simp only [List.length_append, List.length_cons, List.length_nil, List.length_drop, List.length_take, List.length_map]; omega)), ?_, ?_, (by (repeat' apply And.intro) <;> exact lv_eq), (by (repeat' apply And.intro) <;> first | exact lv_eq | ((try simp only [encU, encI, List.map_append, take_row]) <;> exact lv_eq) | (simp (maxDischargeDepth := 8) only [go_sem, hNE, hA, encU, encI, List.map_append, take_row, List.length_append, List.length_cons, List.length_nil, Nat.zero_add]; first | done | rfl)), rfl⟩
      · exact hv2
      · exact hr2
    · simp only [if_neg hst] at hr2
      simp only [encU, encAc, encAn] at h32
      (replace hA := And.intro e0_1 (And.intro e0_2 (And.intro e0_4 (And.intro e0_5 (And.intro h0_8 (And.intro h0_6 (And.intro h0_7 (d0))))))); replace hP := And.intro h32 (True.intro); repeat' first | ((with_reducible apply gt_box); (refine ce_boxL ?_; intro la ha hn1; replace hNE := And.intro hNE hn1)) | ((with_reducible apply gt_store); refine ce_store ?_) | ((with_reducible refine gt_appT app_81 ?_); first | refine ce_appendE app_81 c_3 ?_ | (refine ce_appendL app_81 c_3 ?_; intro la ha hn1; replace hNE := And.intro hNE hn1) | refine ce_append app_81 c_3 ?_ ?_ | (refine ce_appendB app_81 c_3 ?_; intro la ha hn1; replace hNE := And.intro hNE hn1)) | ((with_reducible apply gd_call); first | refine de_callS ?_ | refine de_callO ?_) | ((with_reducible apply gd_alloc); (refine de_alloc ?_; intro la ha hn1; replace hNE := And.intro hNE hn1)) | ((with_reducible apply gd_store); first | refine de_store ?_ | refine de_storeZ ?_) | ((with_reducible refine gd_appT app_67 ?_); first | (refine de_appendQ app_67 c_71 ?_; intro la ha; have hn1 := or_ne ha; replace hNE := And.intro hNE hn1) | (refine de_appendU app_67 c_71 ?_; intro la ha hn1; replace hNE := And.intro hNE hn1) | refine de_append app_67 c_71 ?_ ?_ | (refine de_appendL app_67 c_71 ?_; intro la ha hn1; replace hNE := And.intro hNE hn1) | (refine de_appendB app_67 c_71 ?_; intro la ha hn1; replace hNE := And.intro hNE hn1)) | ((with_reducible apply gt_cond); first | refine c_cond ?_ ?_ | refine c_condB ?_ ?_) | ((with_reducible apply gt_any); refine ce_val ?_) | ((with_reducible apply gd_any); refine de_val ?_) | ((with_reducible apply gt_drw); first | refine ce_drwH lo lm ?_ | refine ce_drwA ?_ | refine ce_drwE ?_ | refine ce_drwK ?_ | refine ce_drwZ ?_) | with_reducible first | apply k_seq | apply t_seq | apply t_reg | apply t_nil | apply t_skip | apply t_ret | apply t_exit | apply k_seq_exit | apply k_seq_ret | apply k_blk_exit | refine k_blk_other (by decide) ?_ | apply k_blk_ret | apply k_blk | apply k_invX_ret | apply k_invX_exit | apply t_block | apply m_nil | (with_reducible intro hc; with_reducible exact Bool.noConfusion hc) | (with_reducible intro hc; replace hC := And.intro hC hc))
      refine k_invX (k0 - 1) (by omega) ?_
      intro Ng
      replace hA := And.intro hA (And.intro e0_1 (And.intro e0_2 (And.intro e0_4 (And.intro e0_5 (And.intro h0_8 (And.intro h0_6 (And.intro h0_7 (d0))))))))
      refine ⟨_, _, wkE_id, (by repeat' first | exact rowsok_nil | refine rowsok_cons ?_ ?_ | exact rowok_ghost (by assumption) | exact rowA | ((try simp only [encU, encI, List.map_append, take_row]) <;> exact rowA)), i + 1, q.1, es, ms ++ [(es.length : Int)], lo, la, (by first | omega | (simp only [List.length_append, List.length_cons, List.length_nil, List.length_drop, List.length_take, List.length_map]; omega)), (by first | omega | (simp only [List.length_append, List.length_cons, List.length_nil, List.length_drop, List.length_take, List.length_map]; omega)), (by first | omega | (simp only [List.length_append, List.length_cons, List.length_nil, List.length_drop, List.length_take, List.length_map]; omega)), ?_, ?_, (by (repeat' apply And.intro) <;> exact lv_eq), (by (repeat' apply And.intro) <;> first | exact lv_eq | ((try simp only [encU, encI, List.map_append, take_row]) <;> exact lv_eq) | (simp (maxDischargeDepth := 8) only [go_sem, hNE, hA, encU, encI, List.map_append, take_row, List.length_append, List.length_cons, List.length_nil, Nat.zero_add]; first | done | rfl)), rfl⟩
      · exact hv2
      · exact hr2
  · have hil : i = l.length := by omega
    subst hil
    rw [List.take_length, hR] at hr
    subst hr
    (replace hA := And.intro e0_1 (And.intro e0_2 (And.intro e0_4 (And.intro e0_5 (And.intro h0_8 (And.intro h0_6 (And.intro h0_7 (d0))))))); replace hP := True.intro; repeat' first | ((with_reducible apply gt_box); refine ce_box ?_) | ((with_reducible apply gt_store); refine ce_store ?_) | ((with_reducible refine gt_appT app_81 ?_); first | refine ce_appendE app_81 c_3 ?_ | (refine ce_appendL app_81 c_3 ?_; intro la ha hn1; replace hNE := And.intro hNE hn1) | refine ce_append app_81 c_3 ?_ ?_ | (refine ce_appendB app_81 c_3 ?_; intro la ha hn1; replace hNE := And.intro hNE hn1)) | ((with_reducible apply gd_call); first | refine de_callS ?_ | refine de_callO ?_) | ((with_reducible apply gd_alloc); (refine de_alloc ?_; intro la ha hn1; replace hNE := And.intro hNE hn1)) | ((with_reducible apply gd_store); first | refine de_store ?_ | refine de_storeZ ?_) | ((with_reducible refine gd_appT app_67 ?_); first | (refine de_appendU app_67 c_71 ?_; intro la ha hn1; replace hNE := And.intro hNE hn1) | refine de_append app_67 c_71 ?_ ?_ | (refine de_appendL app_67 c_71 ?_; intro la ha hn1; replace hNE := And.intro hNE hn1) | (refine de_appendB app_67 c_71 ?_; intro la ha hn1; replace hNE := And.intro hNE hn1)) | ((with_reducible apply gt_cond); first | refine c_cond ?_ ?_ | refine c_condB ?_ ?_) | ((with_reducible apply gt_any); refine ce_val ?_) | ((with_reducible apply gd_any); refine de_val ?_) | ((with_reducible apply gt_drw); first | refine ce_drwA ?_ | refine ce_drwE ?_ | refine ce_drwK ?_ | refine ce_drwZ ?_) | with_reducible first | apply k_seq | apply t_seq | apply t_reg | apply t_nil | apply t_skip | apply t_ret | apply t_exit | apply k_seq_exit | apply k_seq_ret | apply k_blk_exit | refine k_blk_other (by decide) ?_ | apply k_blk_ret | apply k_blk | apply k_invX_ret | apply k_invX_exit | apply t_block | apply m_nil | (with_reducible intro hc; with_reducible exact Bool.noConfusion hc) | (with_reducible intro hc; replace hC := And.intro hC hc))
    all_goals ((first | refine cpendE rs42 ?_ | refine cpendNE rs42 ?_); (exact fin_eq))
end Go.Proofs.Ythdgdngdfijfhaa
namespace Go.Proofs.Ythdgdngdfijfhaa
open Go.RowKit Go.Proofs
set_option linter.unusedVariables false
set_option linter.unusedSimpArgs false
theorem ev_write {n p : Nat} {b : List UInt8} (hb : b ≠ []) (hp : p ≤ n) (hn : n ≤ 20000) (hm : p + b.length ≤ 20000) : sizeF n ⟨0, p, b⟩ = (max n (p + b.length), 0) := by
  have h1 : evE n ⟨0, p, b⟩ = 0 := by
    have e1 : (b == []) = false := by simpa using hb
    simp [evE, orE, ev1, ev2, ev3, ev2B, btw, rfs, e1, hp]
  have h2 : sizeN n ⟨0, p, b⟩ = max n (p + b.length) := by simp [sizeN]
  rw [sizeF, if_pos h1, h2]
  simp [rfs]; omega
theorem ev_cut {n p : Nat} (hp : p ≤ n) (hn : n ≤ 20000) : sizeF n ⟨1, p, []⟩ = (p, 0) := by
  have h1 : evE n ⟨1, p, []⟩ = 0 := by simp [evE, orE, ev1, ev2, ev3, ev2B, btw, rfs, hp]
  have h2 : sizeN n ⟨1, p, []⟩ = p := by simp [sizeN]
  rw [sizeF, if_pos h1, h2]
  simp [rfs]; omega
theorem ev_sync {n : Nat} (hn : n ≤ 20000) : sizeF n ⟨2, 0, []⟩ = (n, 0) := by
  have h1 : evE n ⟨2, 0, []⟩ = 0 := by simp [evE, orE, ev1, ev2, ev3, ev2B, btw, rfs]
  have h2 : sizeN n ⟨2, 0, []⟩ = n := by simp [sizeN]
  rw [sizeF, if_pos h1, h2]
  simp [rfs]; omega
theorem aft_write (s : List UInt8) (p : Nat) (b : List UInt8) : aftF s ⟨0, p, b⟩ = s.take p ++ b ++ s.drop (p + b.length) := by
  simp only [aftF, if_true, Int.toNat_natCast]
  congr 1
  rcases Nat.le_total (p + b.length) s.length with h | h
  · rw [Nat.min_eq_left h]
  · rw [Nat.min_eq_right h, List.drop_of_length_le (Nat.le_refl _), List.drop_of_length_le h]
theorem aft_cut (s : List UInt8) (p : Nat) : aftF s ⟨1, p, []⟩ = s.take p := by simp [aftF]
theorem aft_sync (s : List UInt8) : aftF s ⟨2, 0, []⟩ = s := by simp [aftF]
def EvTo (s : List UInt8) (l : List Ev) (t : List UInt8) : Prop := EvV s.length l ∧ wrF s l = t
theorem EvTo.nil (s : List UInt8) : EvTo s [] s := ⟨trivial, rfl⟩
theorem EvTo.cons {s t : List UInt8} {x : Ev} {l : List Ev} (h : (sizeF s.length x).2 = 0) (ht : EvTo (aftF s x) l t) : EvTo s (x :: l) t := by
  obtain ⟨h1, h2, _⟩ := sizeF_le h
  refine ⟨⟨h, ?_⟩, ht.2⟩
  rw [h2, ← aft_len h1]; exact ht.1
theorem EvTo.append {s t r : List UInt8} : ∀ {l l2 : List Ev}, EvTo s l t → EvTo t l2 r → EvTo s (l ++ l2) r := by
  intro l
  induction l generalizing s with
  | nil => intro l2 h h2; obtain ⟨_, rfl⟩ := h; exact h2
  | cons x l ih =>
    intro l2 h h2
    obtain ⟨⟨h3, h4⟩, h5⟩ := h
    obtain ⟨h6, h7, _⟩ := sizeF_le h3
    rw [h7, ← aft_len h6] at h4
    exact EvTo.cons h3 (ih ⟨h4, h5⟩ h2)
theorem evto_sync {s : List UInt8} (hs : s.length ≤ 20000) : EvTo s [⟨2, 0, []⟩] s :=
  EvTo.cons (by rw [ev_sync hs]) (by rw [aft_sync]; exact EvTo.nil s)
theorem evto_write {s b : List UInt8} {p : Nat} (hb : b ≠ []) (hp : p ≤ s.length) (hs : s.length ≤ 20000) (hm : p + b.length ≤ 20000) : EvTo s [⟨0, p, b⟩] (s.take p ++ b ++ s.drop (p + b.length)) :=
  EvTo.cons (by rw [ev_write hb hp hs hm]) (by rw [aft_write]; exact EvTo.nil _)
theorem evto_seq {s t : List UInt8} {n : Nat} (hn : n ≤ s.length) (hs : s.length ≤ 20000) (ht : t.length ≤ 20000) (hnt : n < t.length) (he : s.take n = t.take n) :
    EvTo s ((if n < s.length then [⟨1, (n : Nat), []⟩] else []) ++ [⟨0, (n : Nat), t.drop n⟩]) t := by
  have hne : t.drop n ≠ [] := by intro e; have := congrArg List.length e; simp at this; omega
  have key : ∀ r : List UInt8, r.length = n → r = t.take n → EvTo r [⟨0, (n : Nat), t.drop n⟩] t := fun r hr e => by
    have hl2 : (t.drop n).length = t.length - n := List.length_drop
    have h := evto_write (s := r) (p := n) (b := t.drop n) hne (by omega) (by omega) (by omega)
    have e3 : r.take n ++ t.drop n ++ r.drop (n + (t.drop n).length) = t := by
      rw [List.take_of_length_le (l := r) (by omega), List.drop_of_length_le (l := r) (by omega), List.append_nil, e, List.take_append_drop]
    rw [e3] at h; exact h
  by_cases hlt : n < s.length
  · rw [if_pos hlt]
    refine EvTo.append (EvTo.cons (by rw [ev_cut hn hs]) (EvTo.nil _)) (key _ ?_ ?_)
    · rw [aft_cut]; simp; omega
    · rw [aft_cut]; exact he
  · rw [if_neg hlt, List.nil_append]
    have hl : s.length = n := by omega
    rw [List.take_of_length_le (by omega)] at he
    exact key s hl he
theorem evto_dir {s C : List UInt8} {T : Nat} (hC : C ≠ []) (hs : s.length ≤ 20000) (hT : T + C.length ≤ 20000) :
    EvTo s ((if s.length < T then [⟨0, (s.length : Nat), List.replicate (T - s.length) 0⟩] else []) ++ [⟨0, (T : Nat), C⟩])
      ((s ++ List.replicate (T - s.length) 0).take T ++ C ++ s.drop (T + C.length)) := by
  by_cases hlt : s.length < T
  · rw [if_pos hlt]
    have h1 := evto_write (s := s) (p := s.length) (b := List.replicate (T - s.length) 0) (by intro e; have := congrArg List.length e; simp at this; omega) (Nat.le_refl _) hs (by simp; omega)
    rw [List.take_length, List.drop_of_length_le (by simp), List.append_nil] at h1
    have hl : (s ++ List.replicate (T - s.length) 0).length = T := by simp; omega
    have h2 := evto_write (s := s ++ List.replicate (T - s.length) 0) (p := T) hC (by omega) (by omega) hT
    rw [List.drop_of_length_le (by omega), List.append_nil] at h2
    rw [List.drop_of_length_le (l := s) (by omega), List.append_nil]
    exact h1.append h2
  · rw [if_neg hlt, List.nil_append, show T - s.length = 0 by omega, List.replicate_zero, List.append_nil]
    exact evto_write hC (by omega) hs hT
theorem sl_zeros (w : Nat) : ∀ (k n : Nat), sl w (List.replicate k ([], false)) n = List.replicate (k * (w + 4)) 0
  | 0, n => by simp [sl]
  | k + 1, n => by
    rw [List.replicate_succ, sl, sl_zeros w k (n + 1), slot1, if_neg (by decide), List.replicate_append_replicate, Nat.add_mul]
    congr 1; omega
theorem sl_append (w : Nat) : ∀ (A B : List (List UInt8 × Bool)) (n : Nat), sl w (A ++ B) n = sl w A n ++ sl w B (n + A.length)
  | [], B, n => by simp [sl]
  | x :: A, B, n => by simp only [List.cons_append, sl, sl_append w A B (n + 1), List.append_assoc, List.length_cons, show n + 1 + A.length = n + (A.length + 1) by omega]
theorem sl_set (w : Nat) (R : List (List UInt8 × Bool)) (i : Nat) (x : List UInt8 × Bool) (hi : i < R.length) (hR : ∀ y ∈ R, okR w y) :
    sl w (R.set i x) 1 = (sl w R 1).take (i * (w + 4)) ++ slot1 w (i + 1) x ++ (sl w R 1).drop ((i + 1) * (w + 4)) := by
  have e0 : R.set i x = R.take i ++ x :: R.drop (i + 1) := List.set_eq_take_append_cons_drop.trans (by rw [if_pos hi])
  have e1 : R = R.take i ++ R.drop i := (List.take_append_drop i R).symm
  have e2 : R = R.take (i + 1) ++ R.drop (i + 1) := (List.take_append_drop (i + 1) R).symm
  have hl1 : (R.take i).length = i := by simp; omega
  have hl2 : (R.take (i + 1)).length = i + 1 := by simp; omega
  have l1 : (sl w (R.take i) 1).length = i * (w + 4) := by rw [sl_len w _ 1 (fun y hy => hR y (List.mem_of_mem_take hy)), hl1]
  have l2 : (sl w (R.take (i + 1)) 1).length = (i + 1) * (w + 4) := by rw [sl_len w _ 1 (fun y hy => hR y (List.mem_of_mem_take hy)), hl2]
  have t1 : (sl w R 1).take (i * (w + 4)) = sl w (R.take i) 1 := by
    conv => lhs; rw [e1, sl_append]
    rw [← l1]; exact List.take_left
  have t2 : (sl w R 1).drop ((i + 1) * (w + 4)) = sl w (R.drop (i + 1)) (1 + (i + 1)) := by
    conv => lhs; rw [e2, sl_append, hl2]
    rw [← l2]; exact List.drop_left
  rw [e0, sl_append, sl, t1, t2, hl1, List.append_assoc, show 1 + i = i + 1 by omega, show 1 + (i + 1) = i + 1 + 1 by omega]
theorem done_cases (u : Un) (a : Ac) (h : Vu u) (hk0 : 0 ≤ a.kind) (hk7 : a.kind ≤ 7) :
    ((doneF u a).1 = { u with pos := (doneF u a).1.pos } ∧ (a.kind = 6 → (doneF u a).1 = u)) ∨ ((doneF u a).2.status = 0 ∧ a.kind ≠ 6 ∧
    ((u.access = 2 ∧ u.pos + a.bytes.length ≤ 4000 ∧ (doneF u a).1 = { u with bytes := u.bytes.take u.pos.toNat ++ a.bytes ++ u.bytes.drop (u.pos.toNat + a.bytes.length), pos := u.pos + a.bytes.length }) ∨
     (u.access = 1 ∧ 1 ≤ a.number ∧ a.number ≤ 60 ∧ (a.bytes.length : Int) ≤ u.width ∧ (doneF u a).1 = { u with
        recs := (u.recs ++ List.replicate (a.number.toNat - u.recs.length) []).set (a.number - 1).toNat (a.bytes ++ List.replicate (u.width - (a.bytes.length : Int)).toNat 32),
        there := (u.there ++ List.replicate (a.number.toNat - u.there.length) false).set (a.number - 1).toNat true }) ∨
     (u.access = 0 ∧ u.pos ≤ u.recs.length ∧ (doneF u a).1 = { u with recs := u.recs.take u.pos.toNat, ended := true, pos := u.pos + 1 }) ∨
     (u.access = 0 ∧ u.pos ≤ u.recs.length ∧ (doneF u a).1 = { u with recs := u.recs.take u.pos.toNat ++ [a.bytes], ended := false, pos := u.pos + 1 }))) := by
  have hac : u.access = 0 ∨ u.access = 1 ∨ u.access = 2 := by
    obtain ⟨h1, _⟩ | ⟨h1, _⟩ | ⟨h1, _⟩ := h
    · exact .inl h1
    · exact .inr (.inl h1)
    · exact .inr (.inr h1)
  have same : ∀ q : Un × An, doneF u a = q → q.1 = { u with pos := q.1.pos } → (a.kind = 6 → q.1 = u) → ((doneF u a).1 = { u with pos := (doneF u a).1.pos } ∧ (a.kind = 6 → (doneF u a).1 = u)) := fun q e e1 e2 => by rw [e]; exact ⟨e1, e2⟩
  by_cases h1 : permF u.access a.kind = false
  · exact .inl (same (u, stA 2) (by rw [doneF, if_pos h1]) rfl (fun _ => rfl))
  by_cases h6 : a.kind = 6
  · exact .inl (same (u, stA 0) (by rw [doneF, if_neg h1, if_pos h6]) rfl (fun _ => rfl))
  by_cases h7 : a.kind = 7
  · exact .inl (same (u, ⟨0, [], if u.access = 1 then (u.recs.length : Int) else u.pos + 1⟩) (by rw [doneF, if_neg h1, if_neg h6, if_pos h7]) rfl (fun _ => rfl))
  by_cases h3 : a.kind = 3
  · exact .inl (same ({ u with pos := 0 }, stA 0) (by rw [doneF, if_neg h1, if_neg h6, if_neg h7, if_pos h3]) rfl (fun e => absurd e h6))
  have n6 : ∀ {p : Prop}, a.kind = 6 → p := fun e => absurd e h6
  rcases hac with hac | hac | hac
  · have e0 : doneF u a = seqF u a := by rw [doneF, if_neg h1, if_neg h6, if_neg h7, if_neg h3, if_pos hac]
    by_cases k2 : a.kind = 2
    · by_cases hb : (u.recs.length : Int) < u.pos
      · exact .inl (same _ (by rw [e0, seqF, if_pos k2, if_pos hb]) rfl n6)
      · exact .inl (same _ (by rw [e0, seqF, if_pos k2, if_neg hb]) rfl n6)
    by_cases hb : (u.recs.length : Int) < u.pos
    · exact .inl (same _ (by rw [e0, seqF, if_neg k2, if_pos hb]) rfl n6)
    by_cases k0 : a.kind = 0
    · by_cases hp : u.pos = u.recs.length
      · exact .inl (same _ (by rw [e0, seqF, if_neg k2, if_neg hb, if_pos k0, if_pos hp]) rfl n6)
      · exact .inl (same _ (by rw [e0, seqF, if_neg k2, if_neg hb, if_pos k0, if_neg hp]) rfl n6)
    by_cases k4 : a.kind = 4
    · have e : doneF u a = ({ u with recs := u.recs.take u.pos.toNat, ended := true, pos := u.pos + 1 }, stA 0) := by rw [e0, seqF, if_neg k2, if_neg hb, if_neg k0, if_pos k4]
      rw [e]
      exact .inr ⟨rfl, h6, .inr (.inr (.inl ⟨hac, by omega, rfl⟩))⟩
    by_cases hl : 200 < a.bytes.length
    · exact .inl (same _ (by rw [e0, seqF, if_neg k2, if_neg hb, if_neg k0, if_neg k4, if_pos hl]) rfl n6)
    by_cases h60 : u.pos = 60
    · exact .inl (same _ (by rw [e0, seqF, if_neg k2, if_neg hb, if_neg k0, if_neg k4, if_neg hl, if_pos h60]) rfl n6)
    have e : doneF u a = ({ u with recs := u.recs.take u.pos.toNat ++ [a.bytes], ended := false, pos := u.pos + 1 }, stA 0) := by rw [e0, seqF, if_neg k2, if_neg hb, if_neg k0, if_neg k4, if_neg hl, if_neg h60]
    rw [e]
    exact .inr ⟨rfl, h6, .inr (.inr (.inr ⟨hac, by omega, rfl⟩))⟩
  · have e0 : doneF u a = dirF u a := by rw [doneF, if_neg h1, if_neg h6, if_neg h7, if_neg h3, if_neg (by omega), if_pos hac]
    by_cases hb : btw a.number 1 60 = true
    · have hb2 := hb
      rw [btw_true] at hb2
      by_cases k0 : a.kind = 0
      · by_cases hl : (u.recs.length : Int) ≤ a.number - 1
        · exact .inl (same _ (by rw [e0, dirF, if_pos hb, if_pos k0, if_pos hl]) rfl n6)
        · by_cases ht : (u.there[(a.number - 1).toNat]?).getD false = true
          · exact .inl (same _ (by rw [e0, dirF, if_pos hb, if_pos k0, if_neg hl, if_pos ht]) rfl n6)
          · exact .inl (same _ (by rw [e0, dirF, if_pos hb, if_pos k0, if_neg hl, if_neg ht]) rfl n6)
      · by_cases hl : u.width < (a.bytes.length : Int)
        · exact .inl (same _ (by rw [e0, dirF, if_pos hb, if_neg k0, if_pos hl]) rfl n6)
        · rw [e0, dirF, if_pos hb, if_neg k0, if_neg hl]
          exact .inr ⟨rfl, h6, .inr (.inl ⟨hac, hb2.1, hb2.2, by omega, rfl⟩)⟩
    · exact .inl (same _ (by rw [e0, dirF, if_neg hb]) rfl n6)
  · have e0 : doneF u a = strF u a := by rw [doneF, if_neg h1, if_neg h6, if_neg h7, if_neg h3, if_neg (by omega), if_neg (by omega)]
    by_cases k5 : a.kind = 5
    · by_cases hb : btw a.number 1 ((u.bytes.length : Int) + 1) = true
      · exact .inl (same _ (by rw [e0, strF, if_pos k5, if_pos hb]) rfl n6)
      · exact .inl (same _ (by rw [e0, strF, if_pos k5, if_neg hb]) rfl n6)
    by_cases k0 : a.kind = 0
    · by_cases hb : btw a.number 1 4000 = true
      · by_cases hl : (u.bytes.length : Int) - u.pos < a.number
        · exact .inl (same _ (by rw [e0, strF, if_neg k5, if_pos k0, if_pos hb, if_pos hl]) rfl n6)
        · exact .inl (same _ (by rw [e0, strF, if_neg k5, if_pos k0, if_pos hb, if_neg hl]) rfl n6)
      · exact .inl (same _ (by rw [e0, strF, if_neg k5, if_pos k0, if_neg hb]) rfl n6)
    by_cases hl : 4000 < u.pos + (a.bytes.length : Int)
    · exact .inl (same _ (by rw [e0, strF, if_neg k5, if_neg k0, if_pos hl]) rfl n6)
    have e : doneF u a = ({ u with bytes := u.bytes.take u.pos.toNat ++ a.bytes ++ u.bytes.drop (u.pos.toNat + a.bytes.length), pos := u.pos + (a.bytes.length : Int) }, stA 0) := by rw [e0, strF, if_neg k5, if_neg k0, if_neg hl]
    rw [e]
    exact .inr ⟨rfl, h6, .inl ⟨hac, by omega, rfl⟩⟩
theorem evF_same {u v : Un} {a : Ac} (hk : a.kind ≠ 6) (he : bytesF u = bytesF v) : evF u a v = [] := by rw [evF, if_neg hk, if_pos he]
theorem bytes_sq {u : Un} (h : u.access = 0) : bytesF u = framesF u.recs ++ (if u.ended = true then frmF 69 [] else []) := by simp [bytesF, h]
theorem bytes_dr {u : Un} (h : u.access = 1) : bytesF u = slotsN u u.recs.length := by simp [bytesF, h]
theorem zip_ok {u : Un} (h : Vu u) (hac : u.access = 1) : ∃ w : Nat, u.width = (w : Int) ∧ w ≤ 200 ∧ 1 ≤ w ∧ u.recs.length ≤ 60 ∧ u.there.length = u.recs.length ∧ (u.recs.zip u.there).length = u.recs.length ∧ (∀ x ∈ u.recs.zip u.there, okR w x) ∧ bytesF u = sl w (u.recs.zip u.there) 1 := by
  obtain ⟨h1, _⟩ | ⟨_, hw0, hw1, hn, ht, hst, hl, hb, he, hpz⟩ | ⟨h1, _⟩ := h
  · omega
  · obtain ⟨w, hw⟩ : ∃ w : Nat, u.width = (w : Int) := ⟨u.width.toNat, by omega⟩
    have hzl : (u.recs.zip u.there).length = u.recs.length := by simp [ht]
    refine ⟨w, hw, by omega, by omega, hn, ht, hzl, ?_, ?_⟩
    · intro x hx
      obtain ⟨i, hi⟩ := List.getElem?_of_mem hx
      obtain ⟨s, t⟩ := x
      rw [List.getElem?_zip_eq_some] at hi
      have := hst i s t hi.1 hi.2
      unfold okR
      split
      · rename_i e; have e : t = true := e; rw [if_pos e] at this; show s.length = w; omega
      · rename_i e; have e : ¬ t = true := e; rw [if_neg e] at this; exact List.length_eq_zero_iff.1 (by show s.length = 0; omega)
    · rw [bytes_dr hac, slots_sl u w hw ht _ (Nat.le_refl _), List.take_of_length_le (by omega)]
  · omega
theorem zip_replicate {α β : Type} (x : α) (y : β) : ∀ k, (List.replicate k x).zip (List.replicate k y) = List.replicate k (x, y)
  | 0 => rfl
  | k + 1 => by simp [List.replicate_succ, zip_replicate x y k]
theorem zip_set {α β : Type} : ∀ (A : List α) (B : List β) (i : Nat) (x : α) (y : β), (A.set i x).zip (B.set i y) = (A.zip B).set i (x, y)
  | [], B, i, x, y => by simp
  | a :: A, [], i, x, y => by cases i <;> simp
  | a :: A, b :: B, 0, x, y => by simp
  | a :: A, b :: B, i + 1, x, y => by simp [zip_set A B i x y]
theorem evto_done (u : Un) (a : Ac) (h : Vu u) (ha : actE a = 0) :
    ((doneF u a).2.status = 0 → EvTo (bytesF u) (evF u a (doneF u a).1) (bytesF (doneF u a).1)) ∧ ((doneF u a).2.status ≠ 0 → bytesF (doneF u a).1 = bytesF u) := by
  obtain ⟨⟨hk0, hk7⟩, hbl, _⟩ := (actE_zero a).1 ha
  have hv := done_valid h ha
  have hb1 := bytesF_len h
  have hb2 := bytesF_len hv
  rcases done_cases u a h hk0 hk7 with ⟨h1, h2⟩ | ⟨h1, h6, hc⟩
  · have he : bytesF (doneF u a).1 = bytesF u := by rw [h1]; exact bytesF_pos u _
    refine ⟨fun _ => ?_, fun _ => he⟩
    by_cases h6 : a.kind = 6
    · rw [h2 h6, evF, if_pos h6]; exact evto_sync hb1
    · rw [evF_same h6 he.symm, he]; exact EvTo.nil _
  refine ⟨fun _ => ?_, fun h2 => absurd h1 h2⟩
  by_cases he : bytesF u = bytesF (doneF u a).1
  · rw [evF_same h6 he, ← he]; exact EvTo.nil _
  rcases hc with ⟨hac, hm, hd⟩ | ⟨hac, hn1, hn2, hw, hd⟩ | ⟨hac, hp, hd⟩ | ⟨hac, hp, hd⟩
  · have hp0 : 0 ≤ u.pos ∧ u.pos ≤ (u.bytes.length : Int) := by
      obtain ⟨h, _⟩ | ⟨h, _⟩ | ⟨_, _, _, _, _, _, h1, h2⟩ := h
      · omega
      · omega
      · exact ⟨h1, h2⟩
    obtain ⟨p, hpp⟩ : ∃ p : Nat, u.pos = (p : Int) := ⟨u.pos.toNat, by omega⟩
    have e1 : bytesF u = u.bytes := by simp [bytesF, hac]
    have e2 : bytesF (doneF u a).1 = u.bytes.take p ++ a.bytes ++ u.bytes.drop (p + a.bytes.length) := by
      rw [hd]; simp [bytesF, hac, hpp]
    have hne : a.bytes ≠ [] := by
      intro e
      apply he
      rw [e1, e2, e]; simp
    have hev : evF u a (doneF u a).1 = [⟨0, (p : Nat), a.bytes⟩] := by rw [evF, if_neg h6, if_neg he, if_pos hac, hpp]
    rw [hev, e2, e1]
    exact evto_write hne (by omega) (by rw [← e1]; exact hb1) (by omega)
  · obtain ⟨w, hw1, hw2, hw3, hn, ht, hzl, hok, hbu⟩ := zip_ok h hac
    obtain ⟨N, hN⟩ : ∃ N : Nat, a.number = ((N + 1 : Nat) : Int) := ⟨(a.number - 1).toNat, by omega⟩
    have hT : atF u a = N * (w + 4) := by rw [atF, show a.number.toNat - 1 = N by omega, show u.width.toNat = w by omega]
    obtain ⟨x, hx⟩ : ∃ x, x = a.bytes ++ List.replicate (u.width - (a.bytes.length : Int)).toNat 32 := ⟨_, rfl⟩
    have hxl : x.length = w := by rw [hx]; simp; omega
    obtain ⟨k, hk⟩ : ∃ k, k = N + 1 - u.recs.length := ⟨_, rfl⟩
    obtain ⟨R, hR⟩ : ∃ R, u.recs.zip u.there = R := ⟨_, rfl⟩
    have hac2 : (doneF u a).1.access = 1 := by rw [hd]; exact hac
    obtain ⟨w', hw1', _, _, _, _, hzl', hok', hbv⟩ := zip_ok hv hac2
    have hww : w' = w := by have : (doneF u a).1.width = u.width := by rw [hd]
                            omega
    subst hww
    have hz : (doneF u a).1.recs.zip (doneF u a).1.there = (R ++ List.replicate k ([], false)).set N (x, true) := by
      rw [hd]
      show ((u.recs ++ List.replicate (a.number.toNat - u.recs.length) []).set (a.number - 1).toNat _).zip ((u.there ++ List.replicate (a.number.toNat - u.there.length) false).set (a.number - 1).toNat true) = _
      rw [← hx, ht, show a.number.toNat - u.recs.length = k by omega, show (a.number - 1).toNat = N by omega, zip_set, List.zip_append (by omega), zip_replicate, hR]
    rw [hR] at hzl hok hbu
    have hok2 : ∀ y ∈ R ++ List.replicate k (([] : List UInt8), false), okR w' y := by
      intro y hy
      rcases List.mem_append.1 hy with hy | hy
      · exact hok y hy
      · rw [List.eq_of_mem_replicate hy]; exact rfl
    have hlt : N < (R ++ List.replicate k (([] : List UInt8), false)).length := by simp; omega
    have hC : (slot1 w' (N + 1) (x, true)).length = w' + 4 := slot1_len _ _ _ (by exact hxl)
    have hCne : slot1 w' (N + 1) (x, true) ≠ [] := by intro e; rw [e] at hC; simp at hC
    have hsl : (sl w' R 1).length = R.length * (w' + 4) := sl_len w' R 1 hok
    have hTl : N * (w' + 4) + (w' + 4) = (N + 1) * (w' + 4) := by rw [Nat.add_mul, Nat.one_mul]
    have hTb : (N + 1) * (w' + 4) ≤ 60 * 204 := Nat.mul_le_mul (by omega) (by omega)
    have hb3 : bytesF (doneF u a).1 = (sl w' R 1 ++ List.replicate (N * (w' + 4) - (sl w' R 1).length) 0).take (N * (w' + 4)) ++ slot1 w' (N + 1) (x, true) ++ (sl w' R 1).drop (N * (w' + 4) + (w' + 4)) := by
      rw [hbv, hz, sl_set w' _ N _ hlt hok2, sl_append, sl_zeros, hTl]
      by_cases hNR : N < R.length
      · have hk0 : k = 0 := by omega
        have hm := Nat.mul_le_mul_right (w' + 4) (show N + 1 ≤ R.length by omega)
        rw [hk0, Nat.zero_mul, List.replicate_zero, List.append_nil, show N * (w' + 4) - (sl w' R 1).length = 0 by omega, List.replicate_zero, List.append_nil]
      · have hk1 : k = N + 1 - R.length := by omega
        have hm := Nat.mul_le_mul_right (w' + 4) (show R.length ≤ N by omega)
        have hkm : k * (w' + 4) = (N + 1) * (w' + 4) - R.length * (w' + 4) := by rw [hk1, Nat.sub_mul]
        have hd1 : (sl w' R 1 ++ List.replicate (k * (w' + 4)) 0).drop ((N + 1) * (w' + 4)) = [] := List.drop_of_length_le (by simp; omega)
        have hd2 : (sl w' R 1).drop ((N + 1) * (w' + 4)) = [] := List.drop_of_length_le (by omega)
        have ht1 : ∀ m, N * (w' + 4) - (sl w' R 1).length ≤ m → (sl w' R 1 ++ List.replicate m 0).take (N * (w' + 4)) = sl w' R 1 ++ List.replicate (N * (w' + 4) - (sl w' R 1).length) 0 := fun m hm => by
          rw [List.take_append, List.take_of_length_le (by omega), List.take_replicate]
          congr 2; omega
        rw [hd1, hd2, ht1 _ (by omega), ht1 _ (Nat.le_refl _)]
    have hA : ((sl w' R 1 ++ List.replicate (N * (w' + 4) - (sl w' R 1).length) 0).take (N * (w' + 4))).length = N * (w' + 4) := by simp; omega
    have hev : evF u a (doneF u a).1 = (if (sl w' R 1).length < N * (w' + 4) then [⟨0, ((sl w' R 1).length : Nat), List.replicate (N * (w' + 4) - (sl w' R 1).length) 0⟩] else []) ++ [⟨0, ((N * (w' + 4) : Nat) : Int), slot1 w' (N + 1) (x, true)⟩] := by
      rw [evF, if_neg h6, if_neg he, if_neg (by omega), if_pos hac, hT, hbu, show u.width.toNat = w' by omega]
      congr 3
      rw [hb3]
      generalize (sl w' R 1 ++ List.replicate (N * (w' + 4) - (sl w' R 1).length) 0).take (N * (w' + 4)) = A at hA ⊢
      rw [List.append_assoc, ← hA, ← hC, show A.length + (slot1 w' (N + 1) (x, true)).length = (A ++ slot1 w' (N + 1) (x, true)).length by simp, ← List.append_assoc, List.take_left, List.drop_left]
    rw [hev, hb3, hbu]
    have := evto_dir (s := sl w' R 1) (T := N * (w' + 4)) hCne (by rw [← hbu]; exact hb1) (by rw [hC]; omega)
    rw [hC] at this
    exact this
  all_goals
    have hac2 : (doneF u a).1.access = 0 := by rw [hd]; exact hac
    have hp0 : 0 ≤ u.pos := (Vu_len h).2.2.1
    have hst : (framesF (u.recs.take u.pos.toNat)).length = stayF u := rfl
    have e1 : ∃ r, bytesF u = framesF (u.recs.take u.pos.toNat) ++ r := by
      refine ⟨framesF (u.recs.drop u.pos.toNat) ++ (if u.ended = true then frmF 69 [] else []), ?_⟩
      have e2 := framesF_append (u.recs.take u.pos.toNat) (u.recs.drop u.pos.toNat)
      rw [List.take_append_drop] at e2
      rw [bytes_sq hac, e2, List.append_assoc]
    have e2 : ∃ r, 1 ≤ r.length ∧ bytesF (doneF u a).1 = framesF (u.recs.take u.pos.toNat) ++ r := by
      rw [bytes_sq hac2, hd]
      first
        | exact ⟨frmF 69 [], by rw [frmF_len]; omega, rfl⟩
        | exact ⟨frmF 82 a.bytes, by rw [frmF_len]; omega, by simp [framesF_append, framesF]⟩
    obtain ⟨r1, e1⟩ := e1
    obtain ⟨r2, hr2, e2⟩ := e2
    have hev : evF u a (doneF u a).1 = (if stayF u < (bytesF u).length then [⟨1, (stayF u : Nat), []⟩] else []) ++ [⟨0, (stayF u : Nat), (bytesF (doneF u a).1).drop (stayF u)⟩] := by
      rw [evF, if_neg h6, if_neg he, if_neg (by omega), if_neg (by omega)]
    rw [hev]
    refine evto_seq ?_ hb1 hb2 ?_ ?_
    · rw [e1, List.length_append]; omega
    · rw [e2, List.length_append]; omega
    · rw [e1, e2, ← hst, List.take_left, List.take_left]
end Go.Proofs.Ythdgdngdfijfhaa
namespace Go.Proofs.Ythdgdngdfijfhaa
open Go.RowKit Go.Proofs
set_option linter.unusedVariables false
set_option linter.unusedSimpArgs false
attribute [local irreducible] PPure CallN Tops TopsDm T
theorem evto_run : ∀ (l : List Ac) (u : Un), Vu u → (∀ a ∈ l, actE a = 0) → (evsF u l).1 = (runL u l).1 ∧ EvTo (bytesF u) (evsF u l).2.1 (bytesF (runL u l).1) ∧ (evsF u l).2.1.length ≤ 2 * l.length ∧ (evsF u l).2.2.length = l.length := by
  intro l u h ha
  obtain ⟨m, rfl⟩ : ∃ m : List Ac, l = m.reverse := ⟨l.reverse, by simp⟩
  induction m with
  | nil => exact ⟨rfl, EvTo.nil _, by simp [evsF], rfl⟩
  | cons a m ih =>
    rw [List.reverse_cons] at ha ⊢
    generalize m.reverse = l at ha ih ⊢
    have ha1 : ∀ b ∈ l, actE b = 0 := fun b hb => ha b (List.mem_append_left _ hb)
    have haa : actE a = 0 := ha a (List.mem_append_right _ List.mem_cons_self)
    obtain ⟨h1, h2, h3, h4⟩ := ih ha1
    have hv := runL_valid l u h ha1
    obtain ⟨q1, q2⟩ := evto_done _ a hv haa
    have e1 : evsF u (l ++ [a]) = evS (evsF u l) a := by rw [evsF, List.foldl_append]; rfl
    have e2 : (runL u (l ++ [a])).1 = (doneF (runL u l).1 a).1 := by rw [runL_append]
    have hel := evF_len (runL u l).1 a (doneF (runL u l).1 a).1
    rw [e1, e2, evS, h1]
    refine ⟨rfl, ?_, ?_, by simp [h4]⟩
    · by_cases hs : (doneF (runL u l).1 a).2.status = 0
      · simp only [hs, if_true]; exact h2.append (q1 hs)
      · simp only [hs, if_false]; rw [q2 hs]; exact h2
    · by_cases hs : (doneF (runL u l).1 a).2.status = 0
      · simp only [hs, if_true]; simp; omega
      · simp only [hs, if_false]; simp; omega
theorem wrG_to {s t : List UInt8} {l : List Ev} (h : EvTo s l t) (hs : s.length ≤ 20000) (hl : l.length ≤ 300) : wrG s l = (t, 0) := by
  have h1 : (chkF s l).2 = 0 := by
    rw [chkF, if_neg (by omega)]
    exact (chkL_zero l 0 s.length).2 h.1
  rw [wrG, if_pos h1, h.2]
theorem ev_bytes : ∀ (l : List Ev) (n : Nat), EvV n l → ∀ x ∈ l, x.bytes.length ≤ 20000
  | [], _, _, _, hx => by cases hx
  | y :: l, n, h, x, hx => by
    obtain ⟨h1, h2, h3⟩ := sizeF_le h.1
    rcases List.mem_cons.1 hx with rfl | hx
    · obtain ⟨⟨g1, g2⟩, g3, g4, g5⟩ := evE_zero h1
      unfold sizeN at h3
      unfold ev2B at g3
      by_cases k : x.kind = 0
      · rw [if_pos k] at h3; omega
      · have : x.bytes = [] := by
          simp [k] at g3
          exact g3.1
        rw [this]; simp
    · exact ev_bytes l _ h.2 x hx
set_option maxHeartbeats 8000000 in
theorem law8 (u : Un) (l : List Ac) : PPure Try.prog 8 [encU u, .list .any (l.map encAc)] (.bool true) := by
  have h11 := p11
  have h12 := p12 u
  by_cases hf : fewB u = false
  · rw [hf] at h12
    simp only [encU] at h12 ⊢
    (refine ppure_of_T ok8 (by simp only [List.length_cons, List.length_nil]; decide) ?_; refine t_seq ?_)
    have hNE := True.intro; have hC := True.intro; have hA := True.intro; have hP := True.intro
    (replace hA := True.intro; replace hP := And.intro h11 (And.intro h12 (True.intro)); repeat' first | ((with_reducible apply gt_call); first | refine ce_callS ?_ | refine ce_callO ?_) | ((with_reducible apply gt_alloc); (refine ce_alloc ?_; intro la ha hn1; replace hNE := And.intro hNE hn1)) | ((with_reducible apply gt_box); (refine ce_boxL ?_; intro la ha hn1; replace hNE := And.intro hNE hn1)) | ((with_reducible apply gt_store); refine ce_store ?_) | ((with_reducible apply gt_gcall); first | refine ce_gcallS ?_ | refine ce_gcallO ?_ | refine ce_gcall2 ?_ | refine ce_gno ?_ | refine ce_gskip ?_ | refine ce_gno2 ?_) | ((with_reducible apply gt_g); first | refine ce_gval ?_ | refine ce_gno ?_ | refine ce_gskip ?_ | refine ce_gval2 ?_ | refine ce_gno2 ?_) | ((with_reducible apply gt_cond); first | refine c_cond ?_ ?_ | refine c_condB ?_ ?_) | ((with_reducible apply gt_any); refine ce_val ?_) | with_reducible first | apply k_seq | apply t_seq | apply t_reg | apply t_nil | apply t_skip | apply t_ret | apply t_exit | apply k_seq_exit | apply k_seq_ret | apply k_blk_exit | refine k_blk_other (by decide) ?_ | apply k_blk_ret | apply k_blk | apply t_block | apply m_nil | (with_reducible intro hc; with_reducible exact Bool.noConfusion hc) | (with_reducible intro hc; replace hC := And.intro hC hc))
    all_goals ((first | refine cpendE rs8 ?_ | refine cpendNE rs8 ?_); (exact fin_eq))
  have hf : fewB u = true := by simpa using hf
  rw [hf] at h12
  obtain ⟨b1, b2⟩ := few_len hf
  by_cases hs : ¬ shortP l
  · have h23 := p23n l hs
    simp only [encU] at h12 ⊢
    (refine ppure_of_T ok8 (by simp only [List.length_cons, List.length_nil]; decide) ?_; refine t_seq ?_)
    have hNE := True.intro; have hC := True.intro; have hA := True.intro; have hP := True.intro
    (replace hA := True.intro; replace hP := And.intro h11 (And.intro h12 (And.intro h23 (True.intro))); repeat' first | ((with_reducible apply gt_call); first | refine ce_callS ?_ | refine ce_callO ?_) | ((with_reducible apply gt_alloc); (refine ce_alloc ?_; intro la ha hn1; replace hNE := And.intro hNE hn1)) | ((with_reducible apply gt_box); (refine ce_boxL ?_; intro la ha hn1; replace hNE := And.intro hNE hn1)) | ((with_reducible apply gt_store); refine ce_store ?_) | ((with_reducible apply gt_gcall); first | refine ce_gcallS ?_ | refine ce_gcallO ?_ | refine ce_gcall2 ?_ | refine ce_gno ?_ | refine ce_gskip ?_ | refine ce_gno2 ?_) | ((with_reducible apply gt_g); first | refine ce_gval ?_ | refine ce_gno ?_ | refine ce_gskip ?_ | refine ce_gval2 ?_ | refine ce_gno2 ?_) | ((with_reducible apply gt_cond); first | refine c_cond ?_ ?_ | refine c_condB ?_ ?_) | ((with_reducible apply gt_any); refine ce_val ?_) | with_reducible first | apply k_seq | apply t_seq | apply t_reg | apply t_nil | apply t_skip | apply t_ret | apply t_exit | apply k_seq_exit | apply k_seq_ret | apply k_blk_exit | refine k_blk_other (by decide) ?_ | apply k_blk_ret | apply k_blk | apply t_block | apply m_nil | (with_reducible intro hc; with_reducible exact Bool.noConfusion hc) | (with_reducible intro hc; replace hC := And.intro hC hc))
    all_goals ((first | refine cpendE rs8 ?_ | refine cpendNE rs8 ?_); (exact fin_eq))
  have hs : shortP l := Classical.not_not.1 hs
  have h23 := p23y l hs
  have hll : l.length ≤ 63 := by have := hs.1; omega
  have h14 := p14 u (by omega) (by omega)
  have h25 := p25 l (by omega)
  have h41 := p41 u l (by omega) (by omega) (by omega)
  have h15 := p15 u (by omega) (by omega)
  have h26 := p26 l (by omega)
  by_cases hz : unitE u = 0
  · by_cases hz2 : (actsE l).2 = 0
    · obtain ⟨hl60, ha0⟩ := actsE_zero hz2
      have hv := (unitE_zero u).1 hz
      have hv2 := runL_valid l u hv ha0
      have h27 := p27 u l hv ha0 (by omega)
      have h42 := p42 u l hv ha0 (by omega)
      obtain ⟨e1, e2, e3, e4⟩ := evto_run l u hv ha0
      have hbl := bytesF_len hv
      have hw := wrG_to e2 hbl (by omega)
      have hrg : eofF u l = ((evsF u l).2, 0) := by rw [eofF, if_pos (by simp [orE, hz, hz2])]
      have h18 := p18 u hv
      have h18v := p18 _ hv2
      have h35 := p35 (bytesF u) (evsF u l).2.1 (by omega) (by omega) (fun x hx => by have := ev_bytes _ _ e2.1 x hx; omega)
      rw [hw] at h35
      rw [hrg] at h41
      rw [hz] at h15
      rw [hz2] at h26
      clear e1 e2
      generalize (evsF u l).2 = ev at h41 h42 h35 e3 e4
      have h43 := p43 ev.1 (by omega)
      have h44 := p44 ev.2 (by omega)
      have h34 := p34 ev.1 (by omega)
      generalize bytesF (runL u l).1 = bv at h18v h35
      generalize runL u l = q at h27 h18v
      generalize bytesF u = bu at h18 h35
      simp only [encU] at h12 h14 h15 h27 h18 h18v h41 h42 ⊢
      (refine ppure_of_T ok8 (by simp only [List.length_cons, List.length_nil]; decide) ?_; refine t_seq ?_)
      have hNE := True.intro; have hC := True.intro; have hA := True.intro; have hP := True.intro
      (replace hA := True.intro; replace hP := And.intro h11 (And.intro h12 (And.intro h23 (And.intro h14 (And.intro h25 (And.intro h41 (And.intro h15 (And.intro h26 (And.intro h42 (And.intro h43 (And.intro h44 (And.intro h27 (And.intro h18 (And.intro h18v (And.intro h34 (And.intro h35 (True.intro)))))))))))))))); repeat' first | ((with_reducible apply gt_call); first | refine ce_callS ?_ | refine ce_callO ?_) | ((with_reducible apply gt_alloc); (refine ce_alloc ?_; intro la ha hn1; replace hNE := And.intro hNE hn1)) | ((with_reducible apply gt_box); (refine ce_boxL ?_; intro la ha hn1; replace hNE := And.intro hNE hn1)) | ((with_reducible apply gt_store); refine ce_store ?_) | ((with_reducible apply gt_gcall); first | refine ce_gcallS ?_ | refine ce_gcallO ?_ | refine ce_gcall2 ?_ | refine ce_gno ?_ | refine ce_gskip ?_ | refine ce_gno2 ?_) | ((with_reducible apply gt_g); first | refine ce_gval ?_ | refine ce_gno ?_ | refine ce_gskip ?_ | refine ce_gval2 ?_ | refine ce_gno2 ?_) | ((with_reducible apply gt_cond); first | refine c_cond ?_ ?_ | refine c_condB ?_ ?_) | ((with_reducible apply gt_any); refine ce_val ?_) | with_reducible first | apply k_seq | apply t_seq | apply t_reg | apply t_nil | apply t_skip | apply t_ret | apply t_exit | apply k_seq_exit | apply k_seq_ret | apply k_blk_exit | refine k_blk_other (by decide) ?_ | apply k_blk_ret | apply k_blk | apply t_block | apply m_nil | (with_reducible intro hc; with_reducible exact Bool.noConfusion hc) | (with_reducible intro hc; replace hC := And.intro hC hc))
      all_goals ((first | refine cpendE rs8 ?_ | refine cpendNE rs8 ?_); (exact fin_eq))
    · have hrg : eofF u l = (([], []), (actsE l).2) := by rw [eofF, if_neg (by simp [orE, hz, hz2])]; simp [orE, hz, hz2]
      rw [hrg] at h41
      rw [hz] at h15
      generalize actsE l = q at h41 h26 hz2
      simp only [encU, List.map_nil] at h12 h14 h41 h15 ⊢
      (refine ppure_of_T ok8 (by simp only [List.length_cons, List.length_nil]; decide) ?_; refine t_seq ?_)
      have hNE := True.intro; have hC := True.intro; have hA := True.intro; have hP := True.intro
      (replace hA := True.intro; replace hP := And.intro h11 (And.intro h12 (And.intro h23 (And.intro h14 (And.intro h25 (And.intro h41 (And.intro h15 (And.intro h26 (True.intro)))))))); repeat' first | ((with_reducible apply gt_call); first | refine ce_callS ?_ | refine ce_callO ?_) | ((with_reducible apply gt_alloc); (refine ce_alloc ?_; intro la ha hn1; replace hNE := And.intro hNE hn1)) | ((with_reducible apply gt_box); (refine ce_boxL ?_; intro la ha hn1; replace hNE := And.intro hNE hn1)) | ((with_reducible apply gt_store); refine ce_store ?_) | ((with_reducible apply gt_gcall); first | refine ce_gcallS ?_ | refine ce_gcallO ?_ | refine ce_gcall2 ?_ | refine ce_gno ?_ | refine ce_gskip ?_ | refine ce_gno2 ?_) | ((with_reducible apply gt_g); first | refine ce_gval ?_ | refine ce_gno ?_ | refine ce_gskip ?_ | refine ce_gval2 ?_ | refine ce_gno2 ?_) | ((with_reducible apply gt_cond); first | refine c_cond ?_ ?_ | refine c_condB ?_ ?_) | ((with_reducible apply gt_any); refine ce_val ?_) | with_reducible first | apply k_seq | apply t_seq | apply t_reg | apply t_nil | apply t_skip | apply t_ret | apply t_exit | apply k_seq_exit | apply k_seq_ret | apply k_blk_exit | refine k_blk_other (by decide) ?_ | apply k_blk_ret | apply k_blk | apply t_block | apply m_nil | (with_reducible intro hc; with_reducible exact Bool.noConfusion hc) | (with_reducible intro hc; replace hC := And.intro hC hc))
      all_goals ((first | refine cpendE rs8 ?_ | refine cpendNE rs8 ?_); (exact fin_eq))
  · have hrg : eofF u l = (([], []), unitE u) := by rw [eofF, if_neg (by simp [orE, hz])]; simp [orE, hz]
    rw [hrg] at h41
    generalize unitE u = c at h41 h15 hz
    simp only [encU, List.map_nil] at h12 h14 h41 h15 ⊢
    (refine ppure_of_T ok8 (by simp only [List.length_cons, List.length_nil]; decide) ?_; refine t_seq ?_)
    have hNE := True.intro; have hC := True.intro; have hA := True.intro; have hP := True.intro
    (replace hA := True.intro; replace hP := And.intro h11 (And.intro h12 (And.intro h23 (And.intro h14 (And.intro h25 (And.intro h41 (And.intro h15 (And.intro h26 (True.intro)))))))); repeat' first | ((with_reducible apply gt_call); first | refine ce_callS ?_ | refine ce_callO ?_) | ((with_reducible apply gt_alloc); (refine ce_alloc ?_; intro la ha hn1; replace hNE := And.intro hNE hn1)) | ((with_reducible apply gt_box); (refine ce_boxL ?_; intro la ha hn1; replace hNE := And.intro hNE hn1)) | ((with_reducible apply gt_store); refine ce_store ?_) | ((with_reducible apply gt_gcall); first | refine ce_gcallS ?_ | refine ce_gcallO ?_ | refine ce_gcall2 ?_ | refine ce_gno ?_ | refine ce_gskip ?_ | refine ce_gno2 ?_) | ((with_reducible apply gt_g); first | refine ce_gval ?_ | refine ce_gno ?_ | refine ce_gskip ?_ | refine ce_gval2 ?_ | refine ce_gno2 ?_) | ((with_reducible apply gt_cond); first | refine c_cond ?_ ?_ | refine c_condB ?_ ?_) | ((with_reducible apply gt_any); refine ce_val ?_) | with_reducible first | apply k_seq | apply t_seq | apply t_reg | apply t_nil | apply t_skip | apply t_ret | apply t_exit | apply k_seq_exit | apply k_seq_ret | apply k_blk_exit | refine k_blk_other (by decide) ?_ | apply k_blk_ret | apply k_blk | apply t_block | apply m_nil | (with_reducible intro hc; with_reducible exact Bool.noConfusion hc) | (with_reducible intro hc; replace hC := And.intro hC hc))
    all_goals ((first | refine cpendE rs8 ?_ | refine cpendNE rs8 ?_); (exact fin_eq))
end Go.Proofs.Ythdgdngdfijfhaa
namespace Go.Proofs.Ythdgdngdfijfhaa
open Go.ChangeShapes Go.WideShapes Go.ChangeAt Go.RowKit Go.Proofs
set_option linter.unusedVariables false
set_option maxRecDepth 100000 in
theorem filesEvents_lifted (os : Os) (started : os.Started) (H : Type) (enc : TypeId × Value → H) :
    ReturnsInHanded {} Try.checked os 8 .any (Rows.filesEventsSpec.pre6 enc Try.prog Try.f8 Rows.filesEventsRow.domain false) (Rows.filesEventsSpec.post enc Try.prog Try.f8 false true false false) := by
  refine returnsInHanded_of_change_sized (C := Try.checked) ownKn started (by kernel_rfl) Try.func8
    (ChangeSpec.witness6 (enc := enc) (C := Try.checked) false ⟨#[], #[.agg #[.int .i64 0, .int .i64 0, .slice none 0 0, .slice none 0 0, .string ⟨#[]⟩, .bool false, .int .i64 0], .slice none 0 0], []⟩ 8 (by kernel_rfl) (by kernel_rfl) (by kernel_rfl) (by kernel_rfl)) ?_
  intro W base args ds gs before hval0 hW hcnd hsz0 _
  have hval : ∀ (j : Nat) t v, Try.f8.params[j]? = some t → args[j]? = some v → Value.okWide Try.prog W .any base t v := hval0
  have hW' := hW
  obtain ⟨p, q, hA0, hV, rfl, hfz, hnd⟩ := hW
  have hA : DataW.TrodAll enc Try.prog W 0 (fun _ => true) true Try.f8.params.toList args.toList ds p := hA0
  rw [Try.params8] at hA hval
  obtain ⟨v0, vs0, d0, ds0, p0, q0, hargs, rfl, rfl, h0, r0⟩ := trodAll_cons hA
  obtain ⟨v1, vs1, d1, ds1, p1, q1, rfl, rfl, rfl, h1, r1⟩ := trodAll_cons r0
  obtain ⟨rfl, rfl, rfl⟩ := trodAll_nil r1
  obtain rfl : args = #[v0, v1] := by cases args; simp_all
  obtain ⟨rfl, rfl⟩ := trodVars_none hV
  obtain ⟨u, hu0, w0⟩ := arg25 (hval 0 25 v0 rfl rfl) h0
  have k0 := h0
  have lt0 : ∀ x ∈ p0, x.block < W.heap.size := by obtain ⟨m, hm⟩ := k0; exact DataW.trod_lt m _ _ _ hm
  obtain ⟨l, w1⟩ := arg44 (hval 1 44 v1 rfl rfl) h1
  have k1 := h1
  have lt1 : ∀ x ∈ p1, x.block < W.heap.size := by obtain ⟨m, hm⟩ := k1; exact DataW.trod_lt m _ _ _ hm
  clear hA0 hval0 hsz0
  refine ((law8 u l).law (.mk2 w0 w1)).mono fun e W' ⟨he, bel⟩ => ?_
  subst he
  exact ⟨_, rfl, _, _, _, [], _, [], hW', trodAll_mk1 (shut_bool u_4 _), (trodAll_cons_mk (Below.trod laidOut (by kernel_rfl) (of_decide_eq_true (by kernel_rfl)) k0 bel lt0) (trodAll_cons_mk (Below.trod laidOut (by kernel_rfl) (of_decide_eq_true (by kernel_rfl)) k1 bel lt1) trodAll_mk0)), rfl, bel.frame _, fun h => by cases h⟩
theorem filesEvents_holds : Rows.FilesEventsSaid :=
  OpenClaim.holds_of_wide 8 Try.f8 rfl rfl rfl rfl rfl rfl rfl ⟨rfl, rfl, rfl, rfl, rfl⟩ rfl rfl rfl rfl rfl (by kernel_rfl) Try.func8 (by kernel_rfl)
    (of_decide_eq_true (by kernel_rfl)) (by unfold Func.isWrapper; first | (rw [if_pos (by decide +kernel)]; kernel_rfl) | (rw [if_neg (by decide +kernel)]; exact ⟨rfl, rfl⟩))
    (fun os started H enc _ => filesEvents_lifted os started H enc)
#print axioms filesEvents_holds
end Go.Proofs.Ythdgdngdfijfhaa
