/- Part 6 of the proof: what the claim needs of the framework, the contracts of functions, and the laws. No conditions. -/
import Derived.Test.YthdgdngdfijfhaaU5
import Derived.Test.YthdgdngdfijfhaaRows
namespace Go.Proofs.Ythdgdngdfijfhaa
open Go.RowKit Go.Proofs
set_option linter.unusedVariables false
set_option linter.unusedSimpArgs false
attribute [local irreducible] PPure CallN Tops TopsDm T
theorem hp1_sub {H : Hp} {l1 : Lab} {c1 : Chunk} (h : H l1 = some c1) : ∀ l c, hp [(l1, c1)] l = some c → H l = some c := fun l c e => by
  rw [hp_cons] at e
  split at e
  · rename_i e2; cases e; rw [e2]; exact h
  · cases e
theorem hp2_sub {H : Hp} {l1 l2 : Lab} {c1 c2 : Chunk} (h1 : H l1 = some c1) (h2 : H l2 = some c2) : ∀ l c, hp [(l1, c1), (l2, c2)] l = some c → H l = some c := fun l c e => by
  rw [hp_cons] at e
  split at e
  · rename_i e2; cases e; rw [e2]; exact h1
  · exact hp1_sub h2 l c e
theorem take_row {α : Type} (f : α → PV) (xs : List α) (ys : List PV) : List.take xs.length (xs.map f ++ ys) = xs.map f := by
  have := List.take_left (l₁ := xs.map f) (l₂ := ys)
  rwa [List.length_map] at this
theorem len_row {α : Type} (f : α → PV) (xs : List α) (ys : List PV) : (xs.length ≤ (xs.map f ++ ys).length) = True := eq_true (by simp)
set_option maxHeartbeats 8000000 in
theorem p32s (u : Un) (a : Ac) (h : Vu u) (hac : u.access = 0) (hk0 : 0 ≤ a.kind) (hk5 : a.kind ≤ 5) : PPure Try.prog 32 [encU u, encAc a] (.tup [encU (doneF u a).1, encAn (doneF u a).2]) := by
  have hv := h
  have ht : u.there = [] := by
    obtain ⟨_, _, _, _, ht, _⟩ | ⟨h1, _⟩ | ⟨h1, _⟩ := h
    · exact ht
    · omega
    · omega
  have hl : u.recs.length ≤ 60 := by
    obtain ⟨_, _, hl, _⟩ | ⟨h1, _⟩ | ⟨h1, _⟩ := h
    · exact hl
    · omega
    · omega
  have hg := fun l1 => g73k u a hv hac hk0 hk5 l1
  obtain ⟨q, hq⟩ : ∃ q, doneF u a = q := ⟨_, rfl⟩
  rw [hq] at hg ⊢
  simp only [encU, encAc]
  (refine ppure_of_T ok32 (by simp only [List.length_cons, List.length_nil]; decide) ?_; refine t_seq ?_)
  have hNE := True.intro; have hC := True.intro; have hA := True.intro; have hP := True.intro
  (replace hA := True.intro; replace hP := And.intro @p72' (True.intro); repeat' first | ((with_reducible apply gt_call); first | refine ce_callS ?_ | refine ce_callO ?_) | ((with_reducible apply gt_alloc); (refine ce_alloc ?_; intro la ha hn1; replace hNE := And.intro hNE hn1)) | ((with_reducible apply gt_box); (refine ce_boxL ?_; intro la ha hn1; replace hNE := And.intro hNE hn1)) | ((with_reducible apply gt_store); refine ce_store ?_) | ((with_reducible apply gd_call); first | refine de_callS ?_ | refine de_callO ?_) | ((with_reducible apply gd_store); first | refine de_store ?_ | refine de_storeZ ?_) | ((with_reducible apply gt_cond); first | refine c_cond ?_ ?_ | refine c_condB ?_ ?_) | ((with_reducible apply gt_any); refine ce_val ?_) | ((with_reducible apply gd_any); refine de_val ?_) | ((with_reducible apply gt_drw); first | refine ce_drwA ?_ | refine ce_drwE ?_ | refine ce_drwK ?_ | refine ce_drwZ ?_) | with_reducible first | refine k_seq ?_ | refine t_seq ?_ | refine t_reg ?_ | refine t_nil ?_ | refine t_skip ?_ | refine t_ret ?_ | refine t_exit ?_ | refine k_seq_exit ?_ | refine k_seq_ret ?_ | refine k_blk_exit ?_ | refine k_blk_other (by decide) ?_ | refine k_blk_ret ?_ | refine k_blk ?_ | refine t_block ?_ | refine m_nil ?_ | (with_reducible intro hc; with_reducible exact Bool.noConfusion hc) | (with_reducible intro hc la ha hn1; replace hNE := And.intro hNE hn1) | (with_reducible intro hc; replace hC := And.intro hC hc))
  rename_i lu au nu lx ax nx l4 a4 n4 c1
  obtain ⟨l5, h5⟩ : ∃ l, l = la := ⟨la, rfl⟩
  subst h5
  (first | ((with_reducible apply te_callG); (focus (simp (maxDischargeDepth := 8) only [go_sem, hNE]; first | done | exact rfl)); (focus (simp (maxDischargeDepth := 8) only [go_sem, hNE]; first | done | exact rfl))) | ((with_reducible apply te_callGB); (focus (simp (maxDischargeDepth := 8) only [go_sem, hNE]; first | done | exact rfl)); (focus (simp (maxDischargeDepth := 8) only [go_sem, hNE]; first | done | exact rfl))) | ((with_reducible apply me_callG); (focus (simp (maxDischargeDepth := 8) only [go_sem, hNE]; first | done | exact rfl)); (focus (simp (maxDischargeDepth := 8) only [go_sem, hNE]; first | done | exact rfl)); (focus (simp only [List.all_cons, List.all_nil, allocB, PV.isDef, go_sem, hNE]; first | done | exact rfl))) | ((with_reducible apply me_callGB); (focus (simp (maxDischargeDepth := 8) only [go_sem, hNE]; first | done | exact rfl)); (focus (simp (maxDischargeDepth := 8) only [go_sem, hNE]; first | done | exact rfl)); (focus (simp only [List.all_cons, List.all_nil, allocB, PV.isDef, go_sem, hNE]; first | done | exact rfl)))); refine g14b u ht (by omega) _ ?_
  intro l1 hl1
  replace hNE := And.intro hNE (fresh_ne hl1)
  simp only [encO]
  (replace hA := True.intro; replace hP := True.intro; repeat' first | ((with_reducible apply gt_call); first | refine ce_callS ?_ | refine ce_callO ?_) | ((with_reducible apply gt_alloc); (refine ce_alloc ?_; intro la ha hn1; replace hNE := And.intro hNE hn1)) | ((with_reducible apply gt_box); refine ce_box ?_) | ((with_reducible apply gt_store); refine ce_store ?_) | ((with_reducible apply gd_call); first | refine de_callS ?_ | refine de_callO ?_) | ((with_reducible apply gd_store); first | refine de_store ?_ | refine de_storeZ ?_) | ((with_reducible apply gt_cond); first | refine c_cond ?_ ?_ | refine c_condB ?_ ?_) | ((with_reducible apply gt_any); refine ce_val ?_) | ((with_reducible apply gd_any); refine de_val ?_) | ((with_reducible apply gt_drw); first | refine ce_drwA ?_ | refine ce_drwE ?_ | refine ce_drwK ?_ | refine ce_drwZ ?_) | with_reducible first | refine k_seq ?_ | refine t_seq ?_ | refine t_reg ?_ | refine t_nil ?_ | refine t_skip ?_ | refine t_ret ?_ | refine t_exit ?_ | refine k_seq_exit ?_ | refine k_seq_ret ?_ | refine k_blk_exit ?_ | refine k_blk_other (by decide) ?_ | refine k_blk_ret ?_ | refine k_blk ?_ | refine t_block ?_ | refine m_nil ?_ | (with_reducible intro hc; with_reducible exact Bool.noConfusion hc) | (with_reducible intro hc la ha hn1; replace hNE := And.intro hNE hn1) | (with_reducible intro hc; replace hC := And.intro hC hc))
  (first | ((with_reducible apply te_callG); (focus (simp (maxDischargeDepth := 8) only [go_sem, hNE]; first | done | exact rfl)); (focus (simp (maxDischargeDepth := 8) only [go_sem, hNE]; first | done | exact rfl))) | ((with_reducible apply te_callGB); (focus (simp (maxDischargeDepth := 8) only [go_sem, hNE]; first | done | exact rfl)); (focus (simp (maxDischargeDepth := 8) only [go_sem, hNE]; first | done | exact rfl))) | ((with_reducible apply me_callG); (focus (simp (maxDischargeDepth := 8) only [go_sem, hNE]; first | done | exact rfl)); (focus (simp (maxDischargeDepth := 8) only [go_sem, hNE]; first | done | exact rfl)); (focus (simp only [List.all_cons, List.all_nil, allocB, PV.isDef, go_sem, hNE]; first | done | exact rfl))) | ((with_reducible apply me_callGB); (focus (simp (maxDischargeDepth := 8) only [go_sem, hNE]; first | done | exact rfl)); (focus (simp (maxDischargeDepth := 8) only [go_sem, hNE]; first | done | exact rfl)); (focus (simp only [List.all_cons, List.all_nil, allocB, PV.isDef, go_sem, hNE]; first | done | exact rfl)))); refine CallsG.keep (hp [(l1, .row true 1 (u.recs.map encS))]) (hg l1) (hp1_sub (by exact ev_eq)) ?_
  intro r H' H2 ⟨v1, v2, e0, w1, w2⟩ k1 k2
  subst e0
  have f4 := k2 l4 7 _ (by exact ev_eq) (by simp (maxDischargeDepth := 8) only [go_sem, hNE])
  have f5 := k2 l5 3 _ (by exact ev_eq) (by simp (maxDischargeDepth := 8) only [go_sem, hNE])
  have g45 : (l4 = l5) = False := by simp (maxDischargeDepth := 8) only [go_sem, hNE]
  have g54 : (l5 = l4) = False := eq_false (fun e => of_eq_false g45 e.symm)
  simp only [encO, encAn]
  rcases w1 with ⟨r1, rfl⟩ | ⟨lr, ys, rfl, r1⟩
  · have r3 : q.1.recs = [] := by simpa using r1
    rcases w2 with ⟨r2, rfl⟩ | ⟨lt, zs, rfl, r2⟩
    · have r4 : q.1.there = [] := by simpa using r2
      (replace hA := And.intro f4.1 (And.intro f5.1 (And.intro g45 (g54))); replace hP := True.intro; repeat' first | ((with_reducible apply gt_call); first | refine ce_callS ?_ | refine ce_callO ?_) | ((with_reducible apply gt_alloc); (refine ce_alloc ?_; intro la ha hn1; replace hNE := And.intro hNE hn1)) | ((with_reducible apply gt_box); refine ce_box ?_) | ((with_reducible apply gt_store); refine ce_store ?_) | ((with_reducible apply gd_call); first | refine de_callS ?_ | refine de_callO ?_) | ((with_reducible apply gd_store); first | refine de_store ?_ | refine de_storeZ ?_) | ((with_reducible apply gt_cond); first | refine c_cond ?_ ?_ | refine c_condB ?_ ?_) | ((with_reducible apply gt_any); refine ce_val ?_) | ((with_reducible apply gd_any); refine de_val ?_) | ((with_reducible apply gt_drw); first | refine ce_drwA ?_ | refine ce_drwE ?_ | refine ce_drwK ?_ | refine ce_drwZ ?_) | with_reducible first | refine k_seq ?_ | refine t_seq ?_ | refine t_reg ?_ | refine t_nil ?_ | refine t_skip ?_ | refine t_ret ?_ | refine t_exit ?_ | refine k_seq_exit ?_ | refine k_seq_ret ?_ | refine k_blk_exit ?_ | refine k_blk_other (by decide) ?_ | refine k_blk_ret ?_ | refine k_blk ?_ | refine t_block ?_ | refine m_nil ?_ | (with_reducible intro hc; with_reducible exact Bool.noConfusion hc) | (with_reducible intro hc la ha hn1; replace hNE := And.intro hNE hn1) | (with_reducible intro hc; replace hC := And.intro hC hc))
      all_goals ((first | refine cpendE rs32 ?_ | refine cpendNE rs32 ?_); (have hA := And.intro hA (And.intro r3 (r4)); (try simp only [encU, encAn]) <;> exact fin_eq))
    · have m2 := k1 _ _ r2
      have d1 : (lt = l4) = False := eq_false (fun e => by rw [e, f4.2] at r2; cases r2)
      have d2 : (lt = l5) = False := eq_false (fun e => by rw [e, f5.2] at r2; cases r2)
      have m4 := take_row encB q.1.there zs
      have m6 := len_row encB q.1.there zs
      (replace hA := And.intro f4.1 (And.intro f5.1 (And.intro g45 (And.intro g54 (And.intro m2 (And.intro d1 (And.intro d2 (And.intro m4 (m6)))))))); replace hP := True.intro; repeat' first | ((with_reducible apply gt_call); first | refine ce_callS ?_ | refine ce_callO ?_) | ((with_reducible apply gt_alloc); (refine ce_alloc ?_; intro la ha hn1; replace hNE := And.intro hNE hn1)) | ((with_reducible apply gt_box); refine ce_box ?_) | ((with_reducible apply gt_store); refine ce_store ?_) | ((with_reducible apply gd_call); first | refine de_callS ?_ | refine de_callO ?_) | ((with_reducible apply gd_store); first | refine de_store ?_ | refine de_storeZ ?_) | ((with_reducible apply gt_cond); first | refine c_cond ?_ ?_ | refine c_condB ?_ ?_) | ((with_reducible apply gt_any); refine ce_val ?_) | ((with_reducible apply gd_any); refine de_val ?_) | ((with_reducible apply gt_drw); first | refine ce_drwA ?_ | refine ce_drwE ?_ | refine ce_drwK ?_ | refine ce_drwZ ?_) | with_reducible first | refine k_seq ?_ | refine t_seq ?_ | refine t_reg ?_ | refine t_nil ?_ | refine t_skip ?_ | refine t_ret ?_ | refine t_exit ?_ | refine k_seq_exit ?_ | refine k_seq_ret ?_ | refine k_blk_exit ?_ | refine k_blk_other (by decide) ?_ | refine k_blk_ret ?_ | refine k_blk ?_ | refine t_block ?_ | refine m_nil ?_ | (with_reducible intro hc; with_reducible exact Bool.noConfusion hc) | (with_reducible intro hc la ha hn1; replace hNE := And.intro hNE hn1) | (with_reducible intro hc; replace hC := And.intro hC hc))
      all_goals ((first | refine cpendE rs32 ?_ | refine cpendNE rs32 ?_); (have hA := And.intro hA r3; (try simp only [encU, encAn]) <;> exact fin_eq))
  · have m1 := k1 _ _ r1
    have d3 : (lr = l4) = False := eq_false (fun e => by rw [e, f4.2] at r1; cases r1)
    have d4 : (lr = l5) = False := eq_false (fun e => by rw [e, f5.2] at r1; cases r1)
    have m3 := take_row encS q.1.recs ys
    have m5 := len_row encS q.1.recs ys
    rcases w2 with ⟨r2, rfl⟩ | ⟨lt, zs, rfl, r2⟩
    · have r4 : q.1.there = [] := by simpa using r2
      (replace hA := And.intro f4.1 (And.intro f5.1 (And.intro g45 (And.intro g54 (And.intro m1 (And.intro d3 (And.intro d4 (And.intro m3 (m5)))))))); replace hP := True.intro; repeat' first | ((with_reducible apply gt_call); first | refine ce_callS ?_ | refine ce_callO ?_) | ((with_reducible apply gt_alloc); (refine ce_alloc ?_; intro la ha hn1; replace hNE := And.intro hNE hn1)) | ((with_reducible apply gt_box); refine ce_box ?_) | ((with_reducible apply gt_store); refine ce_store ?_) | ((with_reducible apply gd_call); first | refine de_callS ?_ | refine de_callO ?_) | ((with_reducible apply gd_store); first | refine de_store ?_ | refine de_storeZ ?_) | ((with_reducible apply gt_cond); first | refine c_cond ?_ ?_ | refine c_condB ?_ ?_) | ((with_reducible apply gt_any); refine ce_val ?_) | ((with_reducible apply gd_any); refine de_val ?_) | ((with_reducible apply gt_drw); first | refine ce_drwA ?_ | refine ce_drwE ?_ | refine ce_drwK ?_ | refine ce_drwZ ?_) | with_reducible first | refine k_seq ?_ | refine t_seq ?_ | refine t_reg ?_ | refine t_nil ?_ | refine t_skip ?_ | refine t_ret ?_ | refine t_exit ?_ | refine k_seq_exit ?_ | refine k_seq_ret ?_ | refine k_blk_exit ?_ | refine k_blk_other (by decide) ?_ | refine k_blk_ret ?_ | refine k_blk ?_ | refine t_block ?_ | refine m_nil ?_ | (with_reducible intro hc; with_reducible exact Bool.noConfusion hc) | (with_reducible intro hc la ha hn1; replace hNE := And.intro hNE hn1) | (with_reducible intro hc; replace hC := And.intro hC hc))
      all_goals ((first | refine cpendE rs32 ?_ | refine cpendNE rs32 ?_); (have hA := And.intro hA r4; (try simp only [encU, encAn]) <;> exact fin_eq))
    · have m2 := k1 _ _ r2
      have d1 : (lt = l4) = False := eq_false (fun e => by rw [e, f4.2] at r2; cases r2)
      have d2 : (lt = l5) = False := eq_false (fun e => by rw [e, f5.2] at r2; cases r2)
      have m4 := take_row encB q.1.there zs
      have m6 := len_row encB q.1.there zs
      (replace hA := And.intro f4.1 (And.intro f5.1 (And.intro g45 (And.intro g54 (And.intro m1 (And.intro m2 (And.intro d1 (And.intro d2 (And.intro d3 (And.intro d4 (And.intro m3 (And.intro m4 (And.intro m5 (m6))))))))))))); replace hP := True.intro; repeat' first | ((with_reducible apply gt_call); first | refine ce_callS ?_ | refine ce_callO ?_) | ((with_reducible apply gt_alloc); (refine ce_alloc ?_; intro la ha hn1; replace hNE := And.intro hNE hn1)) | ((with_reducible apply gt_box); refine ce_box ?_) | ((with_reducible apply gt_store); refine ce_store ?_) | ((with_reducible apply gd_call); first | refine de_callS ?_ | refine de_callO ?_) | ((with_reducible apply gd_store); first | refine de_store ?_ | refine de_storeZ ?_) | ((with_reducible apply gt_cond); first | refine c_cond ?_ ?_ | refine c_condB ?_ ?_) | ((with_reducible apply gt_any); refine ce_val ?_) | ((with_reducible apply gd_any); refine de_val ?_) | ((with_reducible apply gt_drw); first | refine ce_drwA ?_ | refine ce_drwE ?_ | refine ce_drwK ?_ | refine ce_drwZ ?_) | with_reducible first | refine k_seq ?_ | refine t_seq ?_ | refine t_reg ?_ | refine t_nil ?_ | refine t_skip ?_ | refine t_ret ?_ | refine t_exit ?_ | refine k_seq_exit ?_ | refine k_seq_ret ?_ | refine k_blk_exit ?_ | refine k_blk_other (by decide) ?_ | refine k_blk_ret ?_ | refine k_blk ?_ | refine t_block ?_ | refine m_nil ?_ | (with_reducible intro hc; with_reducible exact Bool.noConfusion hc) | (with_reducible intro hc la ha hn1; replace hNE := And.intro hNE hn1) | (with_reducible intro hc; replace hC := And.intro hC hc))
      all_goals ((first | refine cpendE rs32 ?_ | refine cpendNE rs32 ?_); ((try simp only [encU, encAn]) <;> exact fin_eq))
set_option maxHeartbeats 8000000 in
theorem p32e (u : Un) (a : Ac) (h : Vu u) (hac : u.access = 1) (ht : u.there = []) (hk0 : 0 ≤ a.kind) (hk5 : a.kind ≤ 5) (hbl : a.bytes.length ≤ 4000) : PPure Try.prog 32 [encU u, encAc a] (.tup [encU (doneF u a).1, encAn (doneF u a).2]) := by
  have hl : u.recs.length ≤ 60 := by
    obtain ⟨h1, _⟩ | ⟨_, _, _, hl, _⟩ | ⟨h1, _⟩ := h
    · omega
    · exact hl
    · omega
  have hg := fun l1 => g74ek u a h hac ht hk0 hk5 hbl l1
  obtain ⟨q, hq⟩ : ∃ q, doneF u a = q := ⟨_, rfl⟩
  rw [hq] at hg ⊢
  simp only [encU, encAc]
  (refine ppure_of_T ok32 (by simp only [List.length_cons, List.length_nil]; decide) ?_; refine t_seq ?_)
  have hNE := True.intro; have hC := True.intro; have hA := True.intro; have hP := True.intro
  (replace hA := True.intro; replace hP := And.intro @p72' (True.intro); repeat' first | ((with_reducible apply gt_call); first | refine ce_callS ?_ | refine ce_callO ?_) | ((with_reducible apply gt_alloc); (refine ce_alloc ?_; intro la ha hn1; replace hNE := And.intro hNE hn1)) | ((with_reducible apply gt_box); (refine ce_boxL ?_; intro la ha hn1; replace hNE := And.intro hNE hn1)) | ((with_reducible apply gt_store); refine ce_store ?_) | ((with_reducible apply gd_call); first | refine de_callS ?_ | refine de_callO ?_) | ((with_reducible apply gd_store); first | refine de_store ?_ | refine de_storeZ ?_) | ((with_reducible apply gt_cond); first | refine c_cond ?_ ?_ | refine c_condB ?_ ?_) | ((with_reducible apply gt_any); refine ce_val ?_) | ((with_reducible apply gd_any); refine de_val ?_) | ((with_reducible apply gt_drw); first | refine ce_drwA ?_ | refine ce_drwE ?_ | refine ce_drwK ?_ | refine ce_drwZ ?_) | with_reducible first | refine k_seq ?_ | refine t_seq ?_ | refine t_reg ?_ | refine t_nil ?_ | refine t_skip ?_ | refine t_ret ?_ | refine t_exit ?_ | refine k_seq_exit ?_ | refine k_seq_ret ?_ | refine k_blk_exit ?_ | refine k_blk_other (by decide) ?_ | refine k_blk_ret ?_ | refine k_blk ?_ | refine t_block ?_ | refine m_nil ?_ | (with_reducible intro hc; with_reducible exact Bool.noConfusion hc) | (with_reducible intro hc la ha hn1; replace hNE := And.intro hNE hn1) | (with_reducible intro hc; replace hC := And.intro hC hc))
  rename_i lu au nu lx ax nx l4 a4 n4 c1
  obtain ⟨l5, h5⟩ : ∃ l, l = la := ⟨la, rfl⟩
  subst h5
  (first | ((with_reducible apply te_callG); (focus (simp (maxDischargeDepth := 8) only [go_sem, hNE]; first | done | exact rfl)); (focus (simp (maxDischargeDepth := 8) only [go_sem, hNE]; first | done | exact rfl))) | ((with_reducible apply te_callGB); (focus (simp (maxDischargeDepth := 8) only [go_sem, hNE]; first | done | exact rfl)); (focus (simp (maxDischargeDepth := 8) only [go_sem, hNE]; first | done | exact rfl))) | ((with_reducible apply me_callG); (focus (simp (maxDischargeDepth := 8) only [go_sem, hNE]; first | done | exact rfl)); (focus (simp (maxDischargeDepth := 8) only [go_sem, hNE]; first | done | exact rfl)); (focus (simp only [List.all_cons, List.all_nil, allocB, PV.isDef, go_sem, hNE]; first | done | exact rfl))) | ((with_reducible apply me_callGB); (focus (simp (maxDischargeDepth := 8) only [go_sem, hNE]; first | done | exact rfl)); (focus (simp (maxDischargeDepth := 8) only [go_sem, hNE]; first | done | exact rfl)); (focus (simp only [List.all_cons, List.all_nil, allocB, PV.isDef, go_sem, hNE]; first | done | exact rfl)))); refine g14b u ht (by omega) _ ?_
  intro l1 hl1
  replace hNE := And.intro hNE (fresh_ne hl1)
  simp only [encO]
  (replace hA := True.intro; replace hP := True.intro; repeat' first | ((with_reducible apply gt_call); first | refine ce_callS ?_ | refine ce_callO ?_) | ((with_reducible apply gt_alloc); (refine ce_alloc ?_; intro la ha hn1; replace hNE := And.intro hNE hn1)) | ((with_reducible apply gt_box); refine ce_box ?_) | ((with_reducible apply gt_store); refine ce_store ?_) | ((with_reducible apply gd_call); first | refine de_callS ?_ | refine de_callO ?_) | ((with_reducible apply gd_store); first | refine de_store ?_ | refine de_storeZ ?_) | ((with_reducible apply gt_cond); first | refine c_cond ?_ ?_ | refine c_condB ?_ ?_) | ((with_reducible apply gt_any); refine ce_val ?_) | ((with_reducible apply gd_any); refine de_val ?_) | ((with_reducible apply gt_drw); first | refine ce_drwA ?_ | refine ce_drwE ?_ | refine ce_drwK ?_ | refine ce_drwZ ?_) | with_reducible first | refine k_seq ?_ | refine t_seq ?_ | refine t_reg ?_ | refine t_nil ?_ | refine t_skip ?_ | refine t_ret ?_ | refine t_exit ?_ | refine k_seq_exit ?_ | refine k_seq_ret ?_ | refine k_blk_exit ?_ | refine k_blk_other (by decide) ?_ | refine k_blk_ret ?_ | refine k_blk ?_ | refine t_block ?_ | refine m_nil ?_ | (with_reducible intro hc; with_reducible exact Bool.noConfusion hc) | (with_reducible intro hc la ha hn1; replace hNE := And.intro hNE hn1) | (with_reducible intro hc; replace hC := And.intro hC hc))
  (first | ((with_reducible apply te_callG); (focus (simp (maxDischargeDepth := 8) only [go_sem, hNE]; first | done | exact rfl)); (focus (simp (maxDischargeDepth := 8) only [go_sem, hNE]; first | done | exact rfl))) | ((with_reducible apply te_callGB); (focus (simp (maxDischargeDepth := 8) only [go_sem, hNE]; first | done | exact rfl)); (focus (simp (maxDischargeDepth := 8) only [go_sem, hNE]; first | done | exact rfl))) | ((with_reducible apply me_callG); (focus (simp (maxDischargeDepth := 8) only [go_sem, hNE]; first | done | exact rfl)); (focus (simp (maxDischargeDepth := 8) only [go_sem, hNE]; first | done | exact rfl)); (focus (simp only [List.all_cons, List.all_nil, allocB, PV.isDef, go_sem, hNE]; first | done | exact rfl))) | ((with_reducible apply me_callGB); (focus (simp (maxDischargeDepth := 8) only [go_sem, hNE]; first | done | exact rfl)); (focus (simp (maxDischargeDepth := 8) only [go_sem, hNE]; first | done | exact rfl)); (focus (simp only [List.all_cons, List.all_nil, allocB, PV.isDef, go_sem, hNE]; first | done | exact rfl)))); refine CallsG.keep (hp [(l1, .row true 1 (u.recs.map encS))]) (hg l1) (hp1_sub (by exact ev_eq)) ?_
  intro r H' H2 ⟨v1, v2, e0, w1, w2⟩ k1 k2
  subst e0
  have f4 := k2 l4 7 _ (by exact ev_eq) (by simp (maxDischargeDepth := 8) only [go_sem, hNE])
  have f5 := k2 l5 3 _ (by exact ev_eq) (by simp (maxDischargeDepth := 8) only [go_sem, hNE])
  have g45 : (l4 = l5) = False := by simp (maxDischargeDepth := 8) only [go_sem, hNE]
  have g54 : (l5 = l4) = False := eq_false (fun e => of_eq_false g45 e.symm)
  simp only [encO, encAn]
  rcases w1 with ⟨r1, rfl⟩ | ⟨lr, ys, rfl, r1⟩
  · have r3 : q.1.recs = [] := by simpa using r1
    rcases w2 with ⟨r2, rfl⟩ | ⟨lt, zs, rfl, r2⟩
    · have r4 : q.1.there = [] := by simpa using r2
      (replace hA := And.intro f4.1 (And.intro f5.1 (And.intro g45 (g54))); replace hP := True.intro; repeat' first | ((with_reducible apply gt_call); first | refine ce_callS ?_ | refine ce_callO ?_) | ((with_reducible apply gt_alloc); (refine ce_alloc ?_; intro la ha hn1; replace hNE := And.intro hNE hn1)) | ((with_reducible apply gt_box); refine ce_box ?_) | ((with_reducible apply gt_store); refine ce_store ?_) | ((with_reducible apply gd_call); first | refine de_callS ?_ | refine de_callO ?_) | ((with_reducible apply gd_store); first | refine de_store ?_ | refine de_storeZ ?_) | ((with_reducible apply gt_cond); first | refine c_cond ?_ ?_ | refine c_condB ?_ ?_) | ((with_reducible apply gt_any); refine ce_val ?_) | ((with_reducible apply gd_any); refine de_val ?_) | ((with_reducible apply gt_drw); first | refine ce_drwA ?_ | refine ce_drwE ?_ | refine ce_drwK ?_ | refine ce_drwZ ?_) | with_reducible first | refine k_seq ?_ | refine t_seq ?_ | refine t_reg ?_ | refine t_nil ?_ | refine t_skip ?_ | refine t_ret ?_ | refine t_exit ?_ | refine k_seq_exit ?_ | refine k_seq_ret ?_ | refine k_blk_exit ?_ | refine k_blk_other (by decide) ?_ | refine k_blk_ret ?_ | refine k_blk ?_ | refine t_block ?_ | refine m_nil ?_ | (with_reducible intro hc; with_reducible exact Bool.noConfusion hc) | (with_reducible intro hc la ha hn1; replace hNE := And.intro hNE hn1) | (with_reducible intro hc; replace hC := And.intro hC hc))
      all_goals ((first | refine cpendE rs32 ?_ | refine cpendNE rs32 ?_); (have hA := And.intro hA (And.intro r3 (r4)); (try simp only [encU, encAn]) <;> exact fin_eq))
    · have m2 := k1 _ _ r2
      have d1 : (lt = l4) = False := eq_false (fun e => by rw [e, f4.2] at r2; cases r2)
      have d2 : (lt = l5) = False := eq_false (fun e => by rw [e, f5.2] at r2; cases r2)
      have m4 := take_row encB q.1.there zs
      have m6 := len_row encB q.1.there zs
      (replace hA := And.intro f4.1 (And.intro f5.1 (And.intro g45 (And.intro g54 (And.intro m2 (And.intro d1 (And.intro d2 (And.intro m4 (m6)))))))); replace hP := True.intro; repeat' first | ((with_reducible apply gt_call); first | refine ce_callS ?_ | refine ce_callO ?_) | ((with_reducible apply gt_alloc); (refine ce_alloc ?_; intro la ha hn1; replace hNE := And.intro hNE hn1)) | ((with_reducible apply gt_box); refine ce_box ?_) | ((with_reducible apply gt_store); refine ce_store ?_) | ((with_reducible apply gd_call); first | refine de_callS ?_ | refine de_callO ?_) | ((with_reducible apply gd_store); first | refine de_store ?_ | refine de_storeZ ?_) | ((with_reducible apply gt_cond); first | refine c_cond ?_ ?_ | refine c_condB ?_ ?_) | ((with_reducible apply gt_any); refine ce_val ?_) | ((with_reducible apply gd_any); refine de_val ?_) | ((with_reducible apply gt_drw); first | refine ce_drwA ?_ | refine ce_drwE ?_ | refine ce_drwK ?_ | refine ce_drwZ ?_) | with_reducible first | refine k_seq ?_ | refine t_seq ?_ | refine t_reg ?_ | refine t_nil ?_ | refine t_skip ?_ | refine t_ret ?_ | refine t_exit ?_ | refine k_seq_exit ?_ | refine k_seq_ret ?_ | refine k_blk_exit ?_ | refine k_blk_other (by decide) ?_ | refine k_blk_ret ?_ | refine k_blk ?_ | refine t_block ?_ | refine m_nil ?_ | (with_reducible intro hc; with_reducible exact Bool.noConfusion hc) | (with_reducible intro hc la ha hn1; replace hNE := And.intro hNE hn1) | (with_reducible intro hc; replace hC := And.intro hC hc))
      all_goals ((first | refine cpendE rs32 ?_ | refine cpendNE rs32 ?_); (have hA := And.intro hA r3; (try simp only [encU, encAn]) <;> exact fin_eq))
  · have m1 := k1 _ _ r1
    have d3 : (lr = l4) = False := eq_false (fun e => by rw [e, f4.2] at r1; cases r1)
    have d4 : (lr = l5) = False := eq_false (fun e => by rw [e, f5.2] at r1; cases r1)
    have m3 := take_row encS q.1.recs ys
    have m5 := len_row encS q.1.recs ys
    rcases w2 with ⟨r2, rfl⟩ | ⟨lt, zs, rfl, r2⟩
    · have r4 : q.1.there = [] := by simpa using r2
      (replace hA := And.intro f4.1 (And.intro f5.1 (And.intro g45 (And.intro g54 (And.intro m1 (And.intro d3 (And.intro d4 (And.intro m3 (m5)))))))); replace hP := True.intro; repeat' first | ((with_reducible apply gt_call); first | refine ce_callS ?_ | refine ce_callO ?_) | ((with_reducible apply gt_alloc); (refine ce_alloc ?_; intro la ha hn1; replace hNE := And.intro hNE hn1)) | ((with_reducible apply gt_box); refine ce_box ?_) | ((with_reducible apply gt_store); refine ce_store ?_) | ((with_reducible apply gd_call); first | refine de_callS ?_ | refine de_callO ?_) | ((with_reducible apply gd_store); first | refine de_store ?_ | refine de_storeZ ?_) | ((with_reducible apply gt_cond); first | refine c_cond ?_ ?_ | refine c_condB ?_ ?_) | ((with_reducible apply gt_any); refine ce_val ?_) | ((with_reducible apply gd_any); refine de_val ?_) | ((with_reducible apply gt_drw); first | refine ce_drwA ?_ | refine ce_drwE ?_ | refine ce_drwK ?_ | refine ce_drwZ ?_) | with_reducible first | refine k_seq ?_ | refine t_seq ?_ | refine t_reg ?_ | refine t_nil ?_ | refine t_skip ?_ | refine t_ret ?_ | refine t_exit ?_ | refine k_seq_exit ?_ | refine k_seq_ret ?_ | refine k_blk_exit ?_ | refine k_blk_other (by decide) ?_ | refine k_blk_ret ?_ | refine k_blk ?_ | refine t_block ?_ | refine m_nil ?_ | (with_reducible intro hc; with_reducible exact Bool.noConfusion hc) | (with_reducible intro hc la ha hn1; replace hNE := And.intro hNE hn1) | (with_reducible intro hc; replace hC := And.intro hC hc))
      all_goals ((first | refine cpendE rs32 ?_ | refine cpendNE rs32 ?_); (have hA := And.intro hA r4; (try simp only [encU, encAn]) <;> exact fin_eq))
    · have m2 := k1 _ _ r2
      have d1 : (lt = l4) = False := eq_false (fun e => by rw [e, f4.2] at r2; cases r2)
      have d2 : (lt = l5) = False := eq_false (fun e => by rw [e, f5.2] at r2; cases r2)
      have m4 := take_row encB q.1.there zs
      have m6 := len_row encB q.1.there zs
      (replace hA := And.intro f4.1 (And.intro f5.1 (And.intro g45 (And.intro g54 (And.intro m1 (And.intro m2 (And.intro d1 (And.intro d2 (And.intro d3 (And.intro d4 (And.intro m3 (And.intro m4 (And.intro m5 (m6))))))))))))); replace hP := True.intro; repeat' first | ((with_reducible apply gt_call); first | refine ce_callS ?_ | refine ce_callO ?_) | ((with_reducible apply gt_alloc); (refine ce_alloc ?_; intro la ha hn1; replace hNE := And.intro hNE hn1)) | ((with_reducible apply gt_box); refine ce_box ?_) | ((with_reducible apply gt_store); refine ce_store ?_) | ((with_reducible apply gd_call); first | refine de_callS ?_ | refine de_callO ?_) | ((with_reducible apply gd_store); first | refine de_store ?_ | refine de_storeZ ?_) | ((with_reducible apply gt_cond); first | refine c_cond ?_ ?_ | refine c_condB ?_ ?_) | ((with_reducible apply gt_any); refine ce_val ?_) | ((with_reducible apply gd_any); refine de_val ?_) | ((with_reducible apply gt_drw); first | refine ce_drwA ?_ | refine ce_drwE ?_ | refine ce_drwK ?_ | refine ce_drwZ ?_) | with_reducible first | refine k_seq ?_ | refine t_seq ?_ | refine t_reg ?_ | refine t_nil ?_ | refine t_skip ?_ | refine t_ret ?_ | refine t_exit ?_ | refine k_seq_exit ?_ | refine k_seq_ret ?_ | refine k_blk_exit ?_ | refine k_blk_other (by decide) ?_ | refine k_blk_ret ?_ | refine k_blk ?_ | refine t_block ?_ | refine m_nil ?_ | (with_reducible intro hc; with_reducible exact Bool.noConfusion hc) | (with_reducible intro hc la ha hn1; replace hNE := And.intro hNE hn1) | (with_reducible intro hc; replace hC := And.intro hC hc))
      all_goals ((first | refine cpendE rs32 ?_ | refine cpendNE rs32 ?_); ((try simp only [encU, encAn]) <;> exact fin_eq))
set_option maxHeartbeats 8000000 in
theorem p32d (u : Un) (a : Ac) (h : Vu u) (hac : u.access = 1) (ht : u.there ≠ []) (hk0 : 0 ≤ a.kind) (hk5 : a.kind ≤ 5) (hbl : a.bytes.length ≤ 4000) : PPure Try.prog 32 [encU u, encAc a] (.tup [encU (doneF u a).1, encAn (doneF u a).2]) := by
  have hl : u.recs.length ≤ 60 ∧ u.there.length ≤ 60 := by
    obtain ⟨h1, _⟩ | ⟨_, _, _, hl, hl2, _⟩ | ⟨h1, _⟩ := h
    · omega
    · omega
    · omega
  have hg := fun l1 l2 hne => g74k u a h hac hk0 hk5 hbl l1 l2 hne
  obtain ⟨q, hq⟩ : ∃ q, doneF u a = q := ⟨_, rfl⟩
  rw [hq] at hg ⊢
  simp only [encU, encAc]
  (refine ppure_of_T ok32 (by simp only [List.length_cons, List.length_nil]; decide) ?_; refine t_seq ?_)
  have hNE := True.intro; have hC := True.intro; have hA := True.intro; have hP := True.intro
  (replace hA := True.intro; replace hP := And.intro @p72' (True.intro); repeat' first | ((with_reducible apply gt_call); first | refine ce_callS ?_ | refine ce_callO ?_) | ((with_reducible apply gt_alloc); (refine ce_alloc ?_; intro la ha hn1; replace hNE := And.intro hNE hn1)) | ((with_reducible apply gt_box); (refine ce_boxL ?_; intro la ha hn1; replace hNE := And.intro hNE hn1)) | ((with_reducible apply gt_store); refine ce_store ?_) | ((with_reducible apply gd_call); first | refine de_callS ?_ | refine de_callO ?_) | ((with_reducible apply gd_store); first | refine de_store ?_ | refine de_storeZ ?_) | ((with_reducible apply gt_cond); first | refine c_cond ?_ ?_ | refine c_condB ?_ ?_) | ((with_reducible apply gt_any); refine ce_val ?_) | ((with_reducible apply gd_any); refine de_val ?_) | ((with_reducible apply gt_drw); first | refine ce_drwA ?_ | refine ce_drwE ?_ | refine ce_drwK ?_ | refine ce_drwZ ?_) | with_reducible first | refine k_seq ?_ | refine t_seq ?_ | refine t_reg ?_ | refine t_nil ?_ | refine t_skip ?_ | refine t_ret ?_ | refine t_exit ?_ | refine k_seq_exit ?_ | refine k_seq_ret ?_ | refine k_blk_exit ?_ | refine k_blk_other (by decide) ?_ | refine k_blk_ret ?_ | refine k_blk ?_ | refine t_block ?_ | refine m_nil ?_ | (with_reducible intro hc; with_reducible exact Bool.noConfusion hc) | (with_reducible intro hc la ha hn1; replace hNE := And.intro hNE hn1) | (with_reducible intro hc; replace hC := And.intro hC hc))
  rename_i lu au nu lx ax nx l4 a4 n4 c1
  obtain ⟨l5, h5⟩ : ∃ l, l = la := ⟨la, rfl⟩
  subst h5
  (first | ((with_reducible apply te_callG); (focus (simp (maxDischargeDepth := 8) only [go_sem, hNE]; first | done | exact rfl)); (focus (simp (maxDischargeDepth := 8) only [go_sem, hNE]; first | done | exact rfl))) | ((with_reducible apply te_callGB); (focus (simp (maxDischargeDepth := 8) only [go_sem, hNE]; first | done | exact rfl)); (focus (simp (maxDischargeDepth := 8) only [go_sem, hNE]; first | done | exact rfl))) | ((with_reducible apply me_callG); (focus (simp (maxDischargeDepth := 8) only [go_sem, hNE]; first | done | exact rfl)); (focus (simp (maxDischargeDepth := 8) only [go_sem, hNE]; first | done | exact rfl)); (focus (simp only [List.all_cons, List.all_nil, allocB, PV.isDef, go_sem, hNE]; first | done | exact rfl))) | ((with_reducible apply me_callGB); (focus (simp (maxDischargeDepth := 8) only [go_sem, hNE]; first | done | exact rfl)); (focus (simp (maxDischargeDepth := 8) only [go_sem, hNE]; first | done | exact rfl)); (focus (simp only [List.all_cons, List.all_nil, allocB, PV.isDef, go_sem, hNE]; first | done | exact rfl)))); refine g14c u ht (by omega) (by omega) _ ?_
  intro l1 l2 b1 b2 b3
  replace hNE := And.intro hNE (And.intro (fresh_ne b1) (And.intro (fresh_ne b2) (And.intro (eq_false b3) (eq_false (Ne.symm b3)))))
  simp only [encO]
  (replace hA := True.intro; replace hP := True.intro; repeat' first | ((with_reducible apply gt_call); first | refine ce_callS ?_ | refine ce_callO ?_) | ((with_reducible apply gt_alloc); (refine ce_alloc ?_; intro la ha hn1; replace hNE := And.intro hNE hn1)) | ((with_reducible apply gt_box); refine ce_box ?_) | ((with_reducible apply gt_store); refine ce_store ?_) | ((with_reducible apply gd_call); first | refine de_callS ?_ | refine de_callO ?_) | ((with_reducible apply gd_store); first | refine de_store ?_ | refine de_storeZ ?_) | ((with_reducible apply gt_cond); first | refine c_cond ?_ ?_ | refine c_condB ?_ ?_) | ((with_reducible apply gt_any); refine ce_val ?_) | ((with_reducible apply gd_any); refine de_val ?_) | ((with_reducible apply gt_drw); first | refine ce_drwA ?_ | refine ce_drwE ?_ | refine ce_drwK ?_ | refine ce_drwZ ?_) | with_reducible first | refine k_seq ?_ | refine t_seq ?_ | refine t_reg ?_ | refine t_nil ?_ | refine t_skip ?_ | refine t_ret ?_ | refine t_exit ?_ | refine k_seq_exit ?_ | refine k_seq_ret ?_ | refine k_blk_exit ?_ | refine k_blk_other (by decide) ?_ | refine k_blk_ret ?_ | refine k_blk ?_ | refine t_block ?_ | refine m_nil ?_ | (with_reducible intro hc; with_reducible exact Bool.noConfusion hc) | (with_reducible intro hc la ha hn1; replace hNE := And.intro hNE hn1) | (with_reducible intro hc; replace hC := And.intro hC hc))
  (first | ((with_reducible apply te_callG); (focus (simp (maxDischargeDepth := 8) only [go_sem, hNE]; first | done | exact rfl)); (focus (simp (maxDischargeDepth := 8) only [go_sem, hNE]; first | done | exact rfl))) | ((with_reducible apply te_callGB); (focus (simp (maxDischargeDepth := 8) only [go_sem, hNE]; first | done | exact rfl)); (focus (simp (maxDischargeDepth := 8) only [go_sem, hNE]; first | done | exact rfl))) | ((with_reducible apply me_callG); (focus (simp (maxDischargeDepth := 8) only [go_sem, hNE]; first | done | exact rfl)); (focus (simp (maxDischargeDepth := 8) only [go_sem, hNE]; first | done | exact rfl)); (focus (simp only [List.all_cons, List.all_nil, allocB, PV.isDef, go_sem, hNE]; first | done | exact rfl))) | ((with_reducible apply me_callGB); (focus (simp (maxDischargeDepth := 8) only [go_sem, hNE]; first | done | exact rfl)); (focus (simp (maxDischargeDepth := 8) only [go_sem, hNE]; first | done | exact rfl)); (focus (simp only [List.all_cons, List.all_nil, allocB, PV.isDef, go_sem, hNE]; first | done | exact rfl)))); refine CallsG.keep (hp [(l2, .row true 1 (u.there.map encB)), (l1, .row true 1 (u.recs.map encS))]) (hg l1 l2 b3) (hp2_sub (by exact ev_eq) (by exact ev_eq)) ?_
  intro r H' H2 ⟨v1, v2, e0, w1, w2⟩ k1 k2
  subst e0
  have f4 := k2 l4 7 _ (by exact ev_eq) (by simp (maxDischargeDepth := 8) only [go_sem, hNE])
  have f5 := k2 l5 3 _ (by exact ev_eq) (by simp (maxDischargeDepth := 8) only [go_sem, hNE])
  have g45 : (l4 = l5) = False := by simp (maxDischargeDepth := 8) only [go_sem, hNE]
  have g54 : (l5 = l4) = False := eq_false (fun e => of_eq_false g45 e.symm)
  simp only [encO, encAn]
  rcases w1 with ⟨r1, rfl⟩ | ⟨lr, ys, rfl, r1⟩
  · have r3 : q.1.recs = [] := by simpa using r1
    rcases w2 with ⟨r2, rfl⟩ | ⟨lt, zs, rfl, r2⟩
    · have r4 : q.1.there = [] := by simpa using r2
      (replace hA := And.intro f4.1 (And.intro f5.1 (And.intro g45 (g54))); replace hP := True.intro; repeat' first | ((with_reducible apply gt_call); first | refine ce_callS ?_ | refine ce_callO ?_) | ((with_reducible apply gt_alloc); (refine ce_alloc ?_; intro la ha hn1; replace hNE := And.intro hNE hn1)) | ((with_reducible apply gt_box); refine ce_box ?_) | ((with_reducible apply gt_store); refine ce_store ?_) | ((with_reducible apply gd_call); first | refine de_callS ?_ | refine de_callO ?_) | ((with_reducible apply gd_store); first | refine de_store ?_ | refine de_storeZ ?_) | ((with_reducible apply gt_cond); first | refine c_cond ?_ ?_ | refine c_condB ?_ ?_) | ((with_reducible apply gt_any); refine ce_val ?_) | ((with_reducible apply gd_any); refine de_val ?_) | ((with_reducible apply gt_drw); first | refine ce_drwA ?_ | refine ce_drwE ?_ | refine ce_drwK ?_ | refine ce_drwZ ?_) | with_reducible first | refine k_seq ?_ | refine t_seq ?_ | refine t_reg ?_ | refine t_nil ?_ | refine t_skip ?_ | refine t_ret ?_ | refine t_exit ?_ | refine k_seq_exit ?_ | refine k_seq_ret ?_ | refine k_blk_exit ?_ | refine k_blk_other (by decide) ?_ | refine k_blk_ret ?_ | refine k_blk ?_ | refine t_block ?_ | refine m_nil ?_ | (with_reducible intro hc; with_reducible exact Bool.noConfusion hc) | (with_reducible intro hc la ha hn1; replace hNE := And.intro hNE hn1) | (with_reducible intro hc; replace hC := And.intro hC hc))
      all_goals ((first | refine cpendE rs32 ?_ | refine cpendNE rs32 ?_); (have hA := And.intro hA (And.intro r3 (r4)); (try simp only [encU, encAn]) <;> exact fin_eq))
    · have m2 := k1 _ _ r2
      have d1 : (lt = l4) = False := eq_false (fun e => by rw [e, f4.2] at r2; cases r2)
      have d2 : (lt = l5) = False := eq_false (fun e => by rw [e, f5.2] at r2; cases r2)
      have m4 := take_row encB q.1.there zs
      have m6 := len_row encB q.1.there zs
      (replace hA := And.intro f4.1 (And.intro f5.1 (And.intro g45 (And.intro g54 (And.intro m2 (And.intro d1 (And.intro d2 (And.intro m4 (m6)))))))); replace hP := True.intro; repeat' first | ((with_reducible apply gt_call); first | refine ce_callS ?_ | refine ce_callO ?_) | ((with_reducible apply gt_alloc); (refine ce_alloc ?_; intro la ha hn1; replace hNE := And.intro hNE hn1)) | ((with_reducible apply gt_box); refine ce_box ?_) | ((with_reducible apply gt_store); refine ce_store ?_) | ((with_reducible apply gd_call); first | refine de_callS ?_ | refine de_callO ?_) | ((with_reducible apply gd_store); first | refine de_store ?_ | refine de_storeZ ?_) | ((with_reducible apply gt_cond); first | refine c_cond ?_ ?_ | refine c_condB ?_ ?_) | ((with_reducible apply gt_any); refine ce_val ?_) | ((with_reducible apply gd_any); refine de_val ?_) | ((with_reducible apply gt_drw); first | refine ce_drwA ?_ | refine ce_drwE ?_ | refine ce_drwK ?_ | refine ce_drwZ ?_) | with_reducible first | refine k_seq ?_ | refine t_seq ?_ | refine t_reg ?_ | refine t_nil ?_ | refine t_skip ?_ | refine t_ret ?_ | refine t_exit ?_ | refine k_seq_exit ?_ | refine k_seq_ret ?_ | refine k_blk_exit ?_ | refine k_blk_other (by decide) ?_ | refine k_blk_ret ?_ | refine k_blk ?_ | refine t_block ?_ | refine m_nil ?_ | (with_reducible intro hc; with_reducible exact Bool.noConfusion hc) | (with_reducible intro hc la ha hn1; replace hNE := And.intro hNE hn1) | (with_reducible intro hc; replace hC := And.intro hC hc))
      all_goals ((first | refine cpendE rs32 ?_ | refine cpendNE rs32 ?_); (have hA := And.intro hA r3; (try simp only [encU, encAn]) <;> exact fin_eq))
  · have m1 := k1 _ _ r1
    have d3 : (lr = l4) = False := eq_false (fun e => by rw [e, f4.2] at r1; cases r1)
    have d4 : (lr = l5) = False := eq_false (fun e => by rw [e, f5.2] at r1; cases r1)
    have m3 := take_row encS q.1.recs ys
    have m5 := len_row encS q.1.recs ys
    rcases w2 with ⟨r2, rfl⟩ | ⟨lt, zs, rfl, r2⟩
    · have r4 : q.1.there = [] := by simpa using r2
      (replace hA := And.intro f4.1 (And.intro f5.1 (And.intro g45 (And.intro g54 (And.intro m1 (And.intro d3 (And.intro d4 (And.intro m3 (m5)))))))); replace hP := True.intro; repeat' first | ((with_reducible apply gt_call); first | refine ce_callS ?_ | refine ce_callO ?_) | ((with_reducible apply gt_alloc); (refine ce_alloc ?_; intro la ha hn1; replace hNE := And.intro hNE hn1)) | ((with_reducible apply gt_box); refine ce_box ?_) | ((with_reducible apply gt_store); refine ce_store ?_) | ((with_reducible apply gd_call); first | refine de_callS ?_ | refine de_callO ?_) | ((with_reducible apply gd_store); first | refine de_store ?_ | refine de_storeZ ?_) | ((with_reducible apply gt_cond); first | refine c_cond ?_ ?_ | refine c_condB ?_ ?_) | ((with_reducible apply gt_any); refine ce_val ?_) | ((with_reducible apply gd_any); refine de_val ?_) | ((with_reducible apply gt_drw); first | refine ce_drwA ?_ | refine ce_drwE ?_ | refine ce_drwK ?_ | refine ce_drwZ ?_) | with_reducible first | refine k_seq ?_ | refine t_seq ?_ | refine t_reg ?_ | refine t_nil ?_ | refine t_skip ?_ | refine t_ret ?_ | refine t_exit ?_ | refine k_seq_exit ?_ | refine k_seq_ret ?_ | refine k_blk_exit ?_ | refine k_blk_other (by decide) ?_ | refine k_blk_ret ?_ | refine k_blk ?_ | refine t_block ?_ | refine m_nil ?_ | (with_reducible intro hc; with_reducible exact Bool.noConfusion hc) | (with_reducible intro hc la ha hn1; replace hNE := And.intro hNE hn1) | (with_reducible intro hc; replace hC := And.intro hC hc))
      all_goals ((first | refine cpendE rs32 ?_ | refine cpendNE rs32 ?_); (have hA := And.intro hA r4; (try simp only [encU, encAn]) <;> exact fin_eq))
    · have m2 := k1 _ _ r2
      have d1 : (lt = l4) = False := eq_false (fun e => by rw [e, f4.2] at r2; cases r2)
      have d2 : (lt = l5) = False := eq_false (fun e => by rw [e, f5.2] at r2; cases r2)
      have m4 := take_row encB q.1.there zs
      have m6 := len_row encB q.1.there zs
      (replace hA := And.intro f4.1 (And.intro f5.1 (And.intro g45 (And.intro g54 (And.intro m1 (And.intro m2 (And.intro d1 (And.intro d2 (And.intro d3 (And.intro d4 (And.intro m3 (And.intro m4 (And.intro m5 (m6))))))))))))); replace hP := True.intro; repeat' first | ((with_reducible apply gt_call); first | refine ce_callS ?_ | refine ce_callO ?_) | ((with_reducible apply gt_alloc); (refine ce_alloc ?_; intro la ha hn1; replace hNE := And.intro hNE hn1)) | ((with_reducible apply gt_box); refine ce_box ?_) | ((with_reducible apply gt_store); refine ce_store ?_) | ((with_reducible apply gd_call); first | refine de_callS ?_ | refine de_callO ?_) | ((with_reducible apply gd_store); first | refine de_store ?_ | refine de_storeZ ?_) | ((with_reducible apply gt_cond); first | refine c_cond ?_ ?_ | refine c_condB ?_ ?_) | ((with_reducible apply gt_any); refine ce_val ?_) | ((with_reducible apply gd_any); refine de_val ?_) | ((with_reducible apply gt_drw); first | refine ce_drwA ?_ | refine ce_drwE ?_ | refine ce_drwK ?_ | refine ce_drwZ ?_) | with_reducible first | refine k_seq ?_ | refine t_seq ?_ | refine t_reg ?_ | refine t_nil ?_ | refine t_skip ?_ | refine t_ret ?_ | refine t_exit ?_ | refine k_seq_exit ?_ | refine k_seq_ret ?_ | refine k_blk_exit ?_ | refine k_blk_other (by decide) ?_ | refine k_blk_ret ?_ | refine k_blk ?_ | refine t_block ?_ | refine m_nil ?_ | (with_reducible intro hc; with_reducible exact Bool.noConfusion hc) | (with_reducible intro hc la ha hn1; replace hNE := And.intro hNE hn1) | (with_reducible intro hc; replace hC := And.intro hC hc))
      all_goals ((first | refine cpendE rs32 ?_ | refine cpendNE rs32 ?_); ((try simp only [encU, encAn]) <;> exact fin_eq))
set_option maxHeartbeats 8000000 in
theorem p32t (u : Un) (a : Ac) (h : Vu u) (hac : u.access = 2) (hk0 : 0 ≤ a.kind) (hk5 : a.kind ≤ 5) (hbl : a.bytes.length ≤ 4000) : PPure Try.prog 32 [encU u, encAc a] (.tup [encU (doneF u a).1, encAn (doneF u a).2]) := by
  obtain ⟨h1, _⟩ | ⟨h1, _⟩ | ⟨_, hw, hr, ht, hb, he, hp0, hp1⟩ := h
  · omega
  · omega
  have h1 := p14 u (by rw [hr]; simp) (by rw [ht]; simp)
  have h2 := p75 u a hp0 hp1 hb hbl hac hk0 hk5
  obtain ⟨q, hq⟩ : ∃ q, doneF u a = q := ⟨_, rfl⟩
  rw [hq] at h2 ⊢
  simp only [encU, encAc, encAn] at h1 h2 ⊢
  (refine ppure_of_T ok32 (by simp only [List.length_cons, List.length_nil]; decide) ?_; refine t_seq ?_)
  have hNE := True.intro; have hC := True.intro; have hA := True.intro; have hP := True.intro
  (replace hA := True.intro; replace hP := And.intro h1 (And.intro h2 (And.intro @p72' (True.intro))); repeat' first | ((with_reducible apply gt_call); first | refine ce_callS ?_ | refine ce_callO ?_) | ((with_reducible apply gt_alloc); (refine ce_alloc ?_; intro la ha hn1; replace hNE := And.intro hNE hn1)) | ((with_reducible apply gt_box); (refine ce_boxL ?_; intro la ha hn1; replace hNE := And.intro hNE hn1)) | ((with_reducible apply gt_store); refine ce_store ?_) | ((with_reducible apply gd_call); first | refine de_callS ?_ | refine de_callO ?_) | ((with_reducible apply gd_store); first | refine de_store ?_ | refine de_storeZ ?_) | ((with_reducible apply gt_cond); first | refine c_cond ?_ ?_ | refine c_condB ?_ ?_) | ((with_reducible apply gt_any); refine ce_val ?_) | ((with_reducible apply gd_any); refine de_val ?_) | ((with_reducible apply gt_drw); first | refine ce_drwA ?_ | refine ce_drwE ?_ | refine ce_drwK ?_ | refine ce_drwZ ?_) | with_reducible first | refine k_seq ?_ | refine t_seq ?_ | refine t_reg ?_ | refine t_nil ?_ | refine t_skip ?_ | refine t_ret ?_ | refine t_exit ?_ | refine k_seq_exit ?_ | refine k_seq_ret ?_ | refine k_blk_exit ?_ | refine k_blk_other (by decide) ?_ | refine k_blk_ret ?_ | refine k_blk ?_ | refine t_block ?_ | refine m_nil ?_ | (with_reducible intro hc; with_reducible exact Bool.noConfusion hc) | (with_reducible intro hc la ha hn1; replace hNE := And.intro hNE hn1) | (with_reducible intro hc; replace hC := And.intro hC hc))
  all_goals ((first | refine cpendE rs32 ?_ | refine cpendNE rs32 ?_); (exact fin_eq))
theorem p32 (u : Un) (a : Ac) (h : Vu u) (hk0 : 0 ≤ a.kind) (hk5 : a.kind ≤ 7) (hbl : a.bytes.length ≤ 4000) : PPure Try.prog 32 [encU u, encAc a] (.tup [encU (doneF u a).1, encAn (doneF u a).2]) := by
  by_cases hk : a.kind = 6 ∨ a.kind = 7
  · exact p32a u a h hk
  have hac : u.access = 0 ∨ u.access = 1 ∨ u.access = 2 := by
    obtain ⟨h1, _⟩ | ⟨h1, _⟩ | ⟨h1, _⟩ := h
    · exact .inl h1
    · exact .inr (.inl h1)
    · exact .inr (.inr h1)
  rcases hac with h1 | h1 | h1
  · exact p32s u a h h1 hk0 (by omega)
  · by_cases ht : u.there = []
    · exact p32e u a h h1 ht hk0 (by omega) hbl
    · exact p32d u a h h1 ht hk0 (by omega) hbl
  · exact p32t u a h h1 hk0 (by omega) hbl
end Go.Proofs.Ythdgdngdfijfhaa
namespace Go.Proofs.Ythdgdngdfijfhaa
open Go.RowKit Go.Proofs
set_option linter.unusedVariables false
set_option linter.unusedSimpArgs false
attribute [local irreducible] PPure CallN Tops TopsDm T
theorem runL_take {l : List Ac} {i : Nat} (hi : i < l.length) (u : Un) : runL u (l.take (i + 1)) = ((doneF (runL u (l.take i)).1 l[i]).1, (runL u (l.take i)).2 ++ [(doneF (runL u (l.take i)).1 l[i]).2]) := by
  rw [take_in hi, runL_append]
attribute [local go_sem] encAc in
set_option maxHeartbeats 8000000 in
theorem p27 (u : Un) (l : List Ac) (h : Vu u) (hacts : ∀ a ∈ l, actE a = 0) (hll : l.length ≤ 1000) :
    PPure Try.prog 27 [encU u, .list .any (l.map encAc)] (.tup [encU (runL u l).1, .list .any ((runL u l).2.map encAn)]) := by
  have hcp : PPure Try.prog 14 [encU u] (encU u) := by
    obtain ⟨_, _, hn, _, ht, _⟩ | ⟨_, _, _, hn, ht, _⟩ | ⟨_, _, hn, ht, _⟩ := h
    · exact p14 u (by omega) (by rw [ht]; simp)
    · exact p14 u (by omega) (by omega)
    · exact p14 u (by rw [hn]; simp) (by rw [ht]; simp)
  simp only [encU] at hcp
  obtain ⟨R, hR⟩ : ∃ R, runL u l = R := ⟨_, rfl⟩
  rw [hR]
  simp only [encU]
  (refine ppure_of_T ok27 (by simp only [List.length_cons, List.length_nil]; decide) ?_; refine t_seq ?_)
  have hNE := True.intro; have hC := True.intro; have hA := True.intro; have hP := True.intro
  (replace hA := True.intro; replace hP := And.intro hcp (True.intro); repeat' first | ((with_reducible apply gt_call); first | refine ce_callS ?_ | refine ce_callO ?_) | ((with_reducible apply gt_alloc); (refine ce_alloc ?_; intro la ha hn1; replace hNE := And.intro hNE hn1)) | ((with_reducible apply gt_box); (refine ce_boxL ?_; intro la ha hn1; replace hNE := And.intro hNE hn1)) | ((with_reducible apply gt_store); refine ce_store ?_) | ((with_reducible refine gt_appT app_46 ?_); first | refine ce_appendE app_46 c_59 ?_ | (refine ce_appendL app_46 c_59 ?_; intro la ha hn1; replace hNE := And.intro hNE hn1) | refine ce_append app_46 c_59 ?_ ?_ | (refine ce_appendB app_46 c_59 ?_; intro la ha hn1; replace hNE := And.intro hNE hn1)) | ((with_reducible apply gd_call); first | refine de_callS ?_ | refine de_callO ?_) | ((with_reducible apply gd_alloc); (refine de_alloc ?_; intro la ha hn1; replace hNE := And.intro hNE hn1)) | ((with_reducible apply gd_store); first | refine de_store ?_ | refine de_storeZ ?_) | ((with_reducible apply gt_cond); first | refine c_cond ?_ ?_ | refine c_condB ?_ ?_) | ((with_reducible apply gt_any); refine ce_val ?_) | ((with_reducible apply gd_any); refine de_val ?_) | ((with_reducible apply gt_drw); first | refine ce_drwA ?_ | refine ce_drwE ?_ | refine ce_drwK ?_ | refine ce_drwZ ?_) | with_reducible first | refine k_seq ?_ | refine t_seq ?_ | refine t_reg ?_ | refine t_nil ?_ | refine t_skip ?_ | refine t_ret ?_ | refine t_exit ?_ | refine k_seq_exit ?_ | refine k_seq_ret ?_ | refine k_blk_exit ?_ | refine k_blk_other (by decide) ?_ | refine k_blk_ret ?_ | refine k_blk ?_ | refine t_block ?_ | refine m_nil ?_ | (with_reducible intro hc; with_reducible exact Bool.noConfusion hc) | (with_reducible intro hc la ha hn1; replace hNE := And.intro hNE hn1) | (with_reducible intro hc; replace hC := And.intro hC hc))
  rename_i lu au nu
  obtain ⟨l4, h4⟩ : ∃ l, l = la := ⟨la, rfl⟩
  subst h4
  refine t_loopX (fun (k0 : Nat) (E0 : Nat → PV) (H0 : Hp) => ∃ (i : Nat) (w : Un) (bs : List An) (lo : Lab), i + k0 = l.length ∧ bs.length = i ∧ Vu w ∧ runL u (l.take i) = (w, bs) ∧ ((lu = l4) = False ∧ (l4 = lu) = False ∧ (lu = lo) = False ∧ (lo = lu) = False ∧ (l4 = lo) = False ∧ (lo = l4) = False) ∧ (E0 7 = .int .i64 (i : Int) ∧ E0 6 = .arr lo 3 0 (bs.length)) ∧ H0 = hp [(lu, .row true 7 ([encU w])), (l4, .row true 7 ([zU])), (lo, .row true 3 (bs.map encAn))]) (l.length) ?_ ?_
  intro Ng
  obtain ⟨g_lo, g_lo1, g_lo2⟩ := ghost_new Ng [lu, l4]
  have g_lo3 := (And.intro (g_lo2 lu (by simp only [List.mem_cons, List.mem_nil_iff, true_or, or_true])) (g_lo2 l4 (by simp only [List.mem_cons, List.mem_nil_iff, true_or, or_true])))
  replace hA := And.intro hA g_lo3
  refine ⟨_, _, (wkE_upd (t := 6) (v := .arr g_lo 3 0 0) wkE_id rfl wv_nil), (by repeat' first | exact rowsok_nil | refine rowsok_cons ?_ ?_ | exact rowok_ghost (by assumption) | exact rowA | ((try simp only [cast0, encU, zU, List.map_nil]) <;> exact rowA)), 0, u, [], g_lo, (by first | omega | rfl | assumption | (first | exact lv_eq | ((try simp only [cast0, encU, zU, List.map_nil]) <;> exact lv_eq) | (simp (maxDischargeDepth := 8) only [go_sem, hNE, hA, cast0, encU, zU, List.map_nil, List.length_append, List.length_cons, List.length_nil, Nat.zero_add]; first | done | rfl))), (by first | omega | rfl | assumption | (first | exact lv_eq | ((try simp only [cast0, encU, zU, List.map_nil]) <;> exact lv_eq) | (simp (maxDischargeDepth := 8) only [go_sem, hNE, hA, cast0, encU, zU, List.map_nil, List.length_append, List.length_cons, List.length_nil, Nat.zero_add]; first | done | rfl))), ?_, ?_, (by (repeat' apply And.intro) <;> exact lv_eq), (by (repeat' apply And.intro) <;> first | exact lv_eq | ((try simp only [cast0, encU, zU, List.map_nil]) <;> exact lv_eq) | (simp (maxDischargeDepth := 8) only [go_sem, hNE, hA, cast0, encU, zU, List.map_nil, List.length_append, List.length_cons, List.length_nil, Nat.zero_add]; first | done | rfl)), rfl⟩
  · exact h
  · rfl
  rintro k0 E0 H0 hfr0 ⟨i, w, bs, lo, hk, hbs, hv, hr, ⟨d0_0, d0_1, d0_2, d0_3, d0_4, d0_5⟩, ⟨h0_7, h0_6⟩, rfl⟩
  have e0_1 := hfr0 1 rfl; have e0_2 := hfr0 2 rfl; have e0_4 := hfr0 4 rfl; have e0_5 := hfr0 5 rfl
  simp (maxDischargeDepth := 8) only [go_sem, cast0, encU, zU, List.map_nil, hNE] at e0_1 e0_2 e0_4 e0_5
  clear hfr0
  have d0 := And.intro d0_0 (And.intro d0_1 (And.intro d0_2 (And.intro d0_3 (And.intro d0_4 (d0_5)))))
  simp only [zU, encU]
  by_cases hi : i < l.length
  · have hai := hacts _ (List.getElem_mem hi)
    obtain ⟨⟨hk0, hk1⟩, hbl, _⟩ := (actE_zero _).1 hai
    have h32 := p32 w l[i] hv hk0 hk1 hbl
    obtain ⟨q, hq⟩ : ∃ q, doneF w l[i] = q := ⟨_, rfl⟩
    have hv2 := done_valid (a := l[i]) hv hai
    have hr2 := runL_take hi u
    rw [hr] at hr2
    simp only [hq] at h32 hv2 hr2
    simp only [encU, encAc, encAn] at h32
    (replace hA := And.intro e0_1 (And.intro e0_2 (And.intro e0_4 (And.intro e0_5 (And.intro h0_7 (And.intro h0_6 (d0)))))); replace hP := And.intro h32 (True.intro); repeat' first | ((with_reducible apply gt_call); first | refine ce_callS ?_ | refine ce_callO ?_) | ((with_reducible apply gt_alloc); (refine ce_alloc ?_; intro la ha hn1; replace hNE := And.intro hNE hn1)) | ((with_reducible apply gt_box); (refine ce_boxL ?_; intro la ha hn1; replace hNE := And.intro hNE hn1)) | ((with_reducible apply gt_store); refine ce_store ?_) | ((with_reducible refine gt_appT app_46 ?_); first | refine ce_appendE app_46 c_59 ?_ | (refine ce_appendL app_46 c_59 ?_; intro la ha hn1; replace hNE := And.intro hNE hn1) | refine ce_append app_46 c_59 ?_ ?_ | (refine ce_appendB app_46 c_59 ?_; intro la ha hn1; replace hNE := And.intro hNE hn1)) | ((with_reducible apply gd_call); first | refine de_callS ?_ | refine de_callO ?_) | ((with_reducible apply gd_alloc); (refine de_alloc ?_; intro la ha hn1; replace hNE := And.intro hNE hn1)) | ((with_reducible apply gd_store); first | refine de_store ?_ | refine de_storeZ ?_) | ((with_reducible apply gt_cond); first | refine c_cond ?_ ?_ | refine c_condB ?_ ?_) | ((with_reducible apply gt_any); refine ce_val ?_) | ((with_reducible apply gd_any); refine de_val ?_) | ((with_reducible apply gt_drw); first | refine ce_drwA ?_ | refine ce_drwE ?_ | refine ce_drwK ?_ | refine ce_drwZ ?_) | with_reducible first | refine k_seq ?_ | refine t_seq ?_ | refine t_reg ?_ | refine t_nil ?_ | refine t_skip ?_ | refine t_ret ?_ | refine t_exit ?_ | refine k_seq_exit ?_ | refine k_seq_ret ?_ | refine k_blk_exit ?_ | refine k_blk_other (by decide) ?_ | refine k_blk_ret ?_ | refine k_blk ?_ | refine k_invX_ret ?_ | refine k_invX_exit ?_ | refine t_block ?_ | refine m_nil ?_ | (with_reducible intro hc; with_reducible exact Bool.noConfusion hc) | (with_reducible intro hc la ha hn1; replace hNE := And.intro hNE hn1) | (with_reducible intro hc; replace hC := And.intro hC hc))
    refine k_invX (k0 - 1) (by omega) ?_
    intro Ng
    replace hA := And.intro hA (And.intro e0_1 (And.intro e0_2 (And.intro e0_4 (And.intro e0_5 (And.intro h0_7 (And.intro h0_6 (d0)))))))
    refine ⟨_, _, wkE_id, (by repeat' first | exact rowsok_nil | refine rowsok_cons ?_ ?_ | exact rowok_ghost (by assumption) | exact rowA | ((try simp only [encU, encAn, List.map_append, take_row]) <;> exact rowA)), i + 1, q.1, bs ++ [q.2], la, (by first | omega | (simp only [List.length_append, List.length_cons, List.length_nil, List.length_drop, List.length_take, List.length_map]; omega)), (by first | omega | (simp only [List.length_append, List.length_cons, List.length_nil, List.length_drop, List.length_take, List.length_map]; omega)), ?_, ?_, (by (repeat' apply And.intro) <;> exact lv_eq), (by (repeat' apply And.intro) <;> first | exact lv_eq | ((try simp only [encU, encAn, List.map_append, take_row]) <;> exact lv_eq) | (simp (maxDischargeDepth := 8) only [go_sem, hNE, hA, encU, encAn, List.map_append, take_row, List.length_append, List.length_cons, List.length_nil, Nat.zero_add]; first | done | rfl)), rfl⟩
    · exact hv2
    · exact hr2
  · have hil : i = l.length := by omega
    subst hil
    rw [List.take_length, hR] at hr
    subst hr
    (replace hA := And.intro e0_1 (And.intro e0_2 (And.intro e0_4 (And.intro e0_5 (And.intro h0_7 (And.intro h0_6 (d0)))))); replace hP := True.intro; repeat' first | ((with_reducible apply gt_call); first | refine ce_callS ?_ | refine ce_callO ?_) | ((with_reducible apply gt_alloc); (refine ce_alloc ?_; intro la ha hn1; replace hNE := And.intro hNE hn1)) | ((with_reducible apply gt_box); refine ce_box ?_) | ((with_reducible apply gt_store); refine ce_store ?_) | ((with_reducible refine gt_appT app_46 ?_); first | refine ce_appendE app_46 c_59 ?_ | (refine ce_appendL app_46 c_59 ?_; intro la ha hn1; replace hNE := And.intro hNE hn1) | refine ce_append app_46 c_59 ?_ ?_ | (refine ce_appendB app_46 c_59 ?_; intro la ha hn1; replace hNE := And.intro hNE hn1)) | ((with_reducible apply gd_call); first | refine de_callS ?_ | refine de_callO ?_) | ((with_reducible apply gd_alloc); (refine de_alloc ?_; intro la ha hn1; replace hNE := And.intro hNE hn1)) | ((with_reducible apply gd_store); first | refine de_store ?_ | refine de_storeZ ?_) | ((with_reducible apply gt_cond); first | refine c_cond ?_ ?_ | refine c_condB ?_ ?_) | ((with_reducible apply gt_any); refine ce_val ?_) | ((with_reducible apply gd_any); refine de_val ?_) | ((with_reducible apply gt_drw); first | refine ce_drwA ?_ | refine ce_drwE ?_ | refine ce_drwK ?_ | refine ce_drwZ ?_) | with_reducible first | refine k_seq ?_ | refine t_seq ?_ | refine t_reg ?_ | refine t_nil ?_ | refine t_skip ?_ | refine t_ret ?_ | refine t_exit ?_ | refine k_seq_exit ?_ | refine k_seq_ret ?_ | refine k_blk_exit ?_ | refine k_blk_other (by decide) ?_ | refine k_blk_ret ?_ | refine k_blk ?_ | refine k_invX_ret ?_ | refine k_invX_exit ?_ | refine t_block ?_ | refine m_nil ?_ | (with_reducible intro hc; with_reducible exact Bool.noConfusion hc) | (with_reducible intro hc la ha hn1; replace hNE := And.intro hNE hn1) | (with_reducible intro hc; replace hC := And.intro hC hc))
    all_goals ((first | refine cpendE rs27 ?_ | refine cpendNE rs27 ?_); ((try simp only [encU]) <;> exact fin_eq))
end Go.Proofs.Ythdgdngdfijfhaa
namespace Go.Proofs.Ythdgdngdfijfhaa
open Go.RowKit Go.Proofs
set_option linter.unusedVariables false
set_option linter.unusedSimpArgs false
attribute [local irreducible] PPure CallN Tops TopsDm T
def acts0 : List Ac := [⟨1, 0, [65, 66]⟩, ⟨1, 0, []⟩, ⟨4, 0, []⟩]
def u1 : Un := ⟨0, 0, [[65, 66], []], [], [], true, 3⟩
theorem run0 : runG zeU acts0 = (((u1, [⟨0, [], 0⟩, ⟨0, [], 0⟩, ⟨0, [], 0⟩]), 3), 0) := by kernel_rfl
def s0 : List UInt8 := (bytesG u1).1
theorem bytes0 : (bytesG u1).2 = 0 := by kernel_rfl
theorem len0 : (s0.length : Int) = 26 := by kernel_rfl
theorem done0 : (doneG u1 ⟨0, 0, []⟩).2 = 0 ∧ (doneG u1 ⟨0, 0, []⟩).1.2.status = 1 := ⟨by kernel_rfl, by kernel_rfl⟩
theorem open0 : (openF 0 0 s0).2 = 0 ∧ (openF 0 0 s0).1.2 = 0 ∧ (openF 0 0 s0).1.1.ended = true ∧ (openF 0 0 s0).1.1.recs = [[65, 66], []] := ⟨by kernel_rfl, by kernel_rfl, by kernel_rfl, by kernel_rfl⟩
theorem sum0 : ((sumF [82, 0, 0, 0] : Nat) : Int) = 92 := by kernel_rfl
theorem p49 : PPure Try.prog 49 [] (.list .any (acts0.map encAc)) := by
  simp only [acts0, List.map_cons, List.map_nil, encAc]
  (refine ppure_of_T ok49 (by simp only [List.length_cons, List.length_nil]; decide) ?_; refine t_seq ?_)
  (have hA := True.intro; have hP := True.intro; have hNE := True.intro; have hC := True.intro; repeat' first
      | with_reducible first | refine k_seq ?_ | refine t_seq ?_ | refine t_reg ?_ | refine t_nil ?_ | refine t_ret ?_
      | refine ae_val ?_)
  (first | apply pend rs49 | apply pendN rs49); (focus (simp only [go_sem]; first | done | exact rfl)); (focus (simp only [go_sem]; first | done | exact rfl))
attribute [local go_sem] List.length_cons List.length_nil in
set_option maxHeartbeats 2000000 in
theorem p11 : PPure Try.prog 11 [] (.bool true) := by
  have h49 := p49
  have h24 := p24 zeU acts0 (by decide) (by decide) (by decide)
  rw [run0] at h24
  have h13 := p13 u1 (by decide) (by decide)
  rw [bytes0] at h13
  have h29 := p29 u1 ⟨0, 0, []⟩ (by decide) (by decide)
  obtain ⟨d1, d2⟩ := done0
  rw [d1] at h29
  obtain ⟨o1, o2, o3, o4⟩ := open0
  have hs0 : (bytesG u1).1 = s0 := rfl
  rw [hs0] at h13
  have h17 := p17' 0 0 s0 (by have := len0; omega)
  rw [o1, o2] at h17
  have h21 := p21 [82, 0, 0, 0] (by decide)
  rw [if_pos (by decide), if_pos (by decide), sum0] at h21
  have h47 := p47 [[65, 66], []] [[65, 66], []] (by decide)
  rw [show (([[65, 66], []] : List (List UInt8)) == [[65, 66], []]) = true from rfl] at h47
  have hl := len0
  generalize s0 = s at h13 h17 hl o3 o4
  generalize (doneG u1 ⟨0, 0, []⟩).1 = q at h29 d2
  generalize (openF 0 0 s).1.1 = v at h17 o3 o4
  simp only [encU, encAc, encAn, acts0, List.map_cons, List.map_nil, d2, o3, o4, encS, zeU, u1] at h49 h24 h13 h29 h17 h47
  (refine ppure_of_T ok11 (by simp only [List.length_cons, List.length_nil]; decide) ?_; refine t_seq ?_)
  (have hA := hl; have hP := And.intro h49 (And.intro h24 (And.intro h13 (And.intro h29 (And.intro h17 (And.intro h21 (And.intro h47 (True.intro))))))); have hNE := True.intro; have hC := True.intro; repeat' first
      | with_reducible first | refine k_seq ?_ | refine t_seq ?_ | refine t_reg ?_ | refine t_nil ?_ | refine t_ret ?_
      | refine ae_val ?_
      | refine ae_callS ?_
      | refine ae_gval ?_
      | refine ae_gcallO ?_
      | (refine ae_alloc ?_; intro la ha hn1; have hNE := And.intro hNE hn1)
      | refine ae_store ?_)
  (first | apply pend rs11 | apply pendN rs11); (focus (simp (maxDischargeDepth := 8) only [hNE, go_sem]; first | done | exact rfl)); (focus (simp (maxDischargeDepth := 8) only [hNE, go_sem]; first | done | exact rfl))
end Go.Proofs.Ythdgdngdfijfhaa
namespace Go.Proofs.Ythdgdngdfijfhaa
open Go.ChangeShapes Go.WideShapes Go.ChangeAt Go.RowKit Go.Deep Go.Proofs
set_option linter.unusedVariables false
set_option linter.unusedSimpArgs false
def ptU : PT := .seq (.int .i64) (.seq (.int .i64) (.seq (.list false .str) (.seq (.list false .bool) (.seq .str (.seq .bool (.seq (.int .i64) .unit))))))
def ptE : PT := .seq (.int .i64) (.seq (.int .i64) (.seq .str .unit))
theorem tvStr {l : List PV} (h : TV (.list false .str) l) : ∃ xs : List (List UInt8), l = [.list .any (xs.map encS)] ∧ xs.length ≤ maxLen :=
  TV_list (r := false) (fun x h1 _ h3 => by
    rw [h3 rfl] at h1
    obtain ⟨s, e, _⟩ := h1
    exact ⟨s, by simpa [encS, encB] using e⟩) h
theorem tvBool {l : List PV} (h : TV (.list false .bool) l) : ∃ xs : List Bool, l = [.list .any (xs.map encB)] ∧ xs.length ≤ maxLen :=
  TV_list (r := false) (fun x h1 _ h3 => by
    rw [h3 rfl] at h1
    obtain ⟨s, e⟩ := h1
    exact ⟨s, by simpa [encS, encB] using e⟩) h
theorem tvU (l : List PV) (h : TV ptU l) : ∃ u : Un, PV.agg l = encU u ∧ u.bytes.length ≤ maxLen := by
  obtain ⟨_, _, rfl, ⟨a, rfl, _⟩, _, _, rfl, ⟨b, rfl, _⟩, _, _, rfl, h1, _, _, rfl, h2, _, _, rfl, ⟨c, rfl, hc⟩, _, _, rfl, ⟨d, rfl⟩, _, _, rfl, ⟨e, rfl, _⟩, rfl⟩ := h
  obtain ⟨xs, rfl, _⟩ := tvStr h1
  obtain ⟨ys, rfl, _⟩ := tvBool h2
  exact ⟨⟨a, b, xs, ys, c, d, e⟩, rfl, hc⟩
theorem tvAc (l : List PV) (h : TV ptE l) : ∃ a : Ac, PV.agg l = encAc a := by
  obtain ⟨_, _, rfl, ⟨a, rfl, _⟩, _, _, rfl, ⟨b, rfl, _⟩, _, _, rfl, ⟨c, rfl, hc⟩, rfl⟩ := h
  exact ⟨⟨a, b, c⟩, rfl⟩
theorem okT25 : okT Try.prog 9 25 ptU = true := by kernel_rfl
theorem okT57 : okT Try.prog 9 57 ptE = true := by kernel_rfl
theorem okT44 : okT Try.prog 9 44 (.list true ptE) = true := by kernel_rfl
section
variable {H : Type} {enc : TypeId × Value → H} {w : World} {r : Reach} {b0 : Nat} {base : Nat} {sp : Nat → Bool} {held : Bool} {v : Value} {d : DataW H} {ps : List MemPlace}
set_option maxRecDepth 100000 in
theorem arg25 (hv : Value.okWide Try.prog w r b0 25 v) (h : DataW.Trod enc Try.prog w base sp held 25 v d ps) : ∃ u : Un, u.bytes.length ≤ maxLen ∧ VR w noO v (encU u) := by
  obtain ⟨q, hT, hq⟩ := arg_struct (T := ptU) 9 Try.underlying25 okT25 hv h
  obtain ⟨p, e, hb⟩ := tvU q hT
  rw [e] at hq
  exact ⟨p, hb, hq⟩
set_option maxRecDepth 100000 in
theorem arg57 (hv : Value.okWide Try.prog w r b0 57 v) (h : DataW.Trod enc Try.prog w base sp held 57 v d ps) : ∃ a : Ac, VR w noO v (encAc a) := by
  obtain ⟨q, hT, hq⟩ := arg_struct (T := ptE) 9 Try.underlying57 okT57 hv h
  obtain ⟨p, e⟩ := tvAc q hT
  rw [e] at hq
  exact ⟨p, hq⟩
set_option maxRecDepth 100000 in
theorem arg44 (hv : Value.okWide Try.prog w r b0 44 v) (h : DataW.Trod enc Try.prog w base sp held 44 v d ps) : ∃ l : List Ac, VR w noO v (.list .any (l.map encAc)) := by
  obtain ⟨q, hT, hq⟩ := arg_slice (T := .list true ptE) 9 u_44 okT44 hv h
  obtain ⟨l, e, _⟩ := TV_rows tvAc hT
  obtain rfl : q = _ := by simpa using e
  exact ⟨l, hq⟩
end
theorem ownKn : ownKnob Try.prog.godebug = none := by kernel_rfl
theorem laidOut : laidOutB Try.prog = true := by kernel_rfl
end Go.Proofs.Ythdgdngdfijfhaa
namespace Go.Proofs.Ythdgdngdfijfhaa
open Go.RowKit Go.Proofs
set_option linter.unusedVariables false
set_option linter.unusedSimpArgs false
theorem frm_split (k : UInt8) (x : List UInt8) : frmF k x = k :: (leB x.length 3 ++ (x ++ leB (sumF (k :: (leB x.length 3 ++ x))) 4)) := by
  simp [frmF, smdF]
theorem nextF_frame (k : UInt8) (x r : List UInt8) (hx : x.length ≤ 200) (hk : k.toNat = 82 ∨ (k.toNat = 69 ∧ x = [])) : nextF (frmF k x ++ r) = ⟨x, k.toNat, r, true⟩ := by
  have hl : (frmF k x).length = x.length + 8 := frmF_len k x
  have h0 : (frmF k x ++ r)[0]? = some k := by rw [frm_split]; simp
  have e3 : (leB x.length 3).length = 3 := leB_len _ _
  have hn : numL (((frmF k x ++ r).take 4).drop 1) = x.length := by
    rw [frm_split, List.cons_append, List.take_succ_cons, List.drop_succ_cons, List.drop_zero, List.append_assoc, List.take_append_of_le_length (by omega), List.take_of_length_le (by omega)]
    exact numL_leB 3 _ (by omega)
  have ht : (frmF k x ++ r).take (x.length + 8) = frmF k x := by rw [← hl]; exact List.take_left
  have hd : (frmF k x ++ r).drop (x.length + 8) = r := by rw [← hl]; exact List.drop_left
  have hr : ((frmF k x ++ r).take (x.length + 4)).drop 4 = x := by
    have h1 : (frmF k x ++ r).take (x.length + 4) = k :: (leB x.length 3 ++ x) := by
      have h2 : frmF k x ++ r = (k :: (leB x.length 3 ++ x)) ++ (leB (sumF (k :: (leB x.length 3 ++ x))) 4 ++ r) := by rw [frm_split]; simp
      rw [h2, show x.length + 4 = (k :: (leB x.length 3 ++ x)).length by simp [e3]; omega]
      exact List.take_left
    rw [h1, List.drop_succ_cons, show 3 = (leB x.length 3).length from e3.symm]
    exact List.drop_left
  have hb : badK k x.length = false := by
    rcases hk with h | ⟨h, rfl⟩
    · simp [badK, h]; omega
    · simp [badK, h]
  unfold nextF
  rw [h0]
  simp only [hn, hb]
  rw [if_neg (by rw [List.length_append, hl]; omega), if_neg (by decide), if_neg (by rw [List.length_append, hl]; omega), hr, hd, ht]
  simp
theorem openL_frames : ∀ (rs : List (List UInt8)) (acc : List (List UInt8)) (f : Nat) (tail : List UInt8), rs.length + acc.length ≤ 60 → (∀ x ∈ rs, x.length ≤ 200) →
    openL (f + rs.length) (framesF rs ++ tail) acc = openL f tail (acc ++ rs)
  | [], acc, f, tail, _, _ => by simp [framesF]
  | x :: rs, acc, f, tail, hl, hx => by
    have h1 := nextF_frame 82 x (framesF rs ++ tail) (hx x List.mem_cons_self) (.inl rfl)
    have h2 := openL_frames rs (acc ++ [x]) f tail (by simp at hl ⊢; omega) (fun y hy => hx y (List.mem_cons_of_mem _ hy))
    rw [List.length_cons, ← Nat.add_assoc, openL, framesF, List.append_assoc, h1]
    simp only
    rw [if_neg (by decide), if_neg (by decide), if_neg (by simp at hl; omega), h2, List.append_assoc]
    rfl
theorem nextF_nil : (nextF []).ok = false := rfl
theorem open_seq (u : Un) (h : Vu u) (hac : u.access = 0) : openL 62 (bytesF u) [] = (({ u with pos := 0 }, 0), 0) := by
  obtain ⟨_, hw, hn, hs, ht, hb, hp0, hp1⟩ | ⟨h1, _⟩ | ⟨h1, _⟩ := h
  · have e1 : bytesF u = framesF u.recs ++ (if u.ended = true then frmF 69 [] else []) := by simp [bytesF, hac]
    have h2 := openL_frames u.recs [] (62 - u.recs.length) (if u.ended = true then frmF 69 [] else []) (by simp; omega) hs
    rw [show 62 - u.recs.length + u.recs.length = 62 by omega] at h2
    obtain ⟨f, hf⟩ : ∃ f, 62 - u.recs.length = f + 1 := ⟨61 - u.recs.length, by omega⟩
    rw [e1, h2, hf, openL, List.nil_append]
    cases he : u.ended with
    | false =>
      rw [if_neg (show ¬ false = true by decide), if_pos nextF_nil]
      obtain ⟨ac, w, rs, th, by_, en, po⟩ := u
      simp at hac hw ht hb he
      simp [mkSq, hac, hw, ht, hb, he]
    | true =>
      have h3 := nextF_frame 69 [] [] (by simp) (.inr ⟨rfl, rfl⟩)
      rw [List.append_nil] at h3
      rw [if_pos rfl, h3]
      simp only
      rw [if_neg (by decide), if_pos (by decide)]
      obtain ⟨ac, w, rs, th, by_, en, po⟩ := u
      simp at hac hw ht hb he
      simp [mkSq, hac, hw, ht, hb, he]
  · omega
  · omega
theorem sumN_zeros : ∀ (m i n : Nat), n + (m * i + m * (m + 1) / 2) < 65521 → sumN (List.replicate m 0) i n = n + (m * i + m * (m + 1) / 2)
  | 0, i, n, _ => by simp [sumN]
  | m + 1, i, n, h => by
    have e0 : (m + 1) * (m + 1 + 1) / 2 = m * (m + 1) / 2 + (m + 1) := by
      rw [show (m + 1) * (m + 1 + 1) = m * (m + 1) + (m + 1) * 2 by rw [Nat.add_mul, Nat.mul_add]; omega, Nat.add_mul_div_right _ _ (by decide)]
    have e1 : (m + 1) * i = m * i + i := by rw [Nat.add_mul, Nat.one_mul]
    have e2 : m * (i + 1) = m * i + m := by rw [Nat.mul_add, Nat.mul_one]
    rw [List.replicate_succ, sumN]
    have h1 : (n + ((0 : UInt8).toNat + 1) * (i + 1)) % 65521 = n + (i + 1) := by
      rw [show ((0 : UInt8).toNat + 1) * (i + 1) = i + 1 by simp]
      exact Nat.mod_eq_of_lt (by omega)
    rw [h1, sumN_zeros m (i + 1) (n + (i + 1)) (by omega)]
    omega
theorem slt_nz (n w : Nat) (x : List UInt8) (hn : n ≤ 60) (hw : w ≤ 200) (hx : x.length = w) : sltF n x ≠ List.replicate (w + 4) 0 := by
  intro e
  rw [sltF, smdF] at e
  have h1 : x = List.replicate w 0 := by
    have := congrArg (List.take w) e
    rw [← hx, List.take_left] at this
    rw [this, List.take_replicate, hx]
    congr 1; omega
  have h2 : leB (sumF ([UInt8.ofNat n] ++ x)) 4 = List.replicate 4 0 := by
    have := congrArg (List.drop w) e
    rw [← hx, List.drop_left] at this
    rw [this, List.drop_replicate, hx]
    congr 1; omega
  have h3 : sumF ([UInt8.ofNat n] ++ x) = (n + 1) + (w * 1 + w * (w + 1) / 2) := by
    have hb : w * (w + 1) / 2 ≤ 20100 := by
      have : w * (w + 1) ≤ 200 * 201 := Nat.mul_le_mul hw (by omega)
      omega
    have hu : (UInt8.ofNat n).toNat = n := by simp; omega
    rw [h1, sumF, List.singleton_append, sumN, hu, show (0 + (n + 1) * (0 + 1)) % 65521 = n + 1 by rw [Nat.zero_add, Nat.mul_one]; exact Nat.mod_eq_of_lt (by omega)]
    exact sumN_zeros w (0 + 1) (n + 1) (by omega)
  have h4 := congrArg numL h2
  rw [numL_leB 4 _ (by have := sumF_lt ([UInt8.ofNat n] ++ x); omega), h3] at h4
  have : numL (List.replicate 4 0) = 0 := by decide
  omega
def slot1 (w n : Nat) (x : List UInt8 × Bool) : List UInt8 := if x.2 = true then sltF n x.1 else List.replicate (w + 4) 0
def sl (w : Nat) : List (List UInt8 × Bool) → Nat → List UInt8
  | [], _ => []
  | x :: r, n => slot1 w n x ++ sl w r (n + 1)
theorem sl_snoc (w : Nat) : ∀ (A : List (List UInt8 × Bool)) (x : List UInt8 × Bool) (n : Nat), sl w (A ++ [x]) n = sl w A n ++ slot1 w (n + A.length) x
  | [], x, n => by simp [sl]
  | y :: A, x, n => by simp only [List.cons_append, sl, sl_snoc w A x (n + 1), List.append_assoc, List.length_cons, show n + 1 + A.length = n + (A.length + 1) by omega]
def okR (w : Nat) (x : List UInt8 × Bool) : Prop := if x.2 = true then x.1.length = w else x.1 = []
theorem slot1_len (w n : Nat) (x : List UInt8 × Bool) (h : okR w x) : (slot1 w n x).length = w + 4 := by
  unfold okR at h
  unfold slot1
  split
  · rename_i e; rw [if_pos e] at h; rw [sltF_len, h]
  · simp
theorem slotOf_slot1 (w n : Nat) (x : List UInt8 × Bool) (h : okR w x) (hn : n ≤ 60) (hw : w ≤ 200) : slotOf w n (slot1 w n x) = x := by
  obtain ⟨s, t⟩ := x
  cases t with
  | true =>
    have h : s.length = w := h
    have h1 := slt_nz n w s hn hw h
    have h2 : (sltF n s).take w = s := by rw [sltF, smdF, ← h]; exact List.take_left
    simp [slotOf, isSlot, slot1, h1, h2]
  | false =>
    have h : s = [] := h
    subst h
    simp [slotOf, isSlot, slot1]
theorem scan_sl (w : Nat) (hw : w ≤ 200) : ∀ (R : List (List UInt8 × Bool)) (n f : Nat), (∀ x ∈ R, okR w x) → n + R.length ≤ 61 → R.length ≤ f → scanL w f n (sl w R n) = R
  | [], n, 0, _, _, _ => rfl
  | [], n, f + 1, _, _, _ => by simp [scanL, sl]
  | x :: R, n, 0, _, _, h => by simp at h
  | x :: R, n, f + 1, hx, hn, hf => by
    have h1 := slot1_len w n x (hx x List.mem_cons_self)
    have h2 : ¬ (sl w (x :: R) n).length < w + 4 := by simp [sl, h1]
    have ht : (sl w (x :: R) n).take (w + 4) = slot1 w n x := by rw [sl, ← h1]; exact List.take_left
    have hd : (sl w (x :: R) n).drop (w + 4) = sl w R (n + 1) := by rw [sl, ← h1]; exact List.drop_left
    simp only [List.length_cons] at hn hf
    rw [scanL, if_neg h2, ht, hd, slotOf_slot1 w n x (hx x List.mem_cons_self) (by omega) hw, scan_sl w hw R (n + 1) f (fun y hy => hx y (List.mem_cons_of_mem _ hy)) (by omega) (by omega)]
theorem sl_len (w : Nat) : ∀ (R : List (List UInt8 × Bool)) (n : Nat), (∀ x ∈ R, okR w x) → (sl w R n).length = R.length * (w + 4)
  | [], n, _ => by simp [sl]
  | x :: R, n, hx => by
    rw [sl, List.length_append, slot1_len w n x (hx x List.mem_cons_self), sl_len w R (n + 1) (fun y hy => hx y (List.mem_cons_of_mem _ hy)), List.length_cons, Nat.add_mul]; omega
theorem slots_sl (u : Un) (w : Nat) (hw : u.width = (w : Int)) (ht : u.there.length = u.recs.length) : ∀ m, m ≤ u.recs.length → slotsN u m = sl w ((u.recs.zip u.there).take m) 1
  | 0, _ => by simp [slotsN, sl]
  | m + 1, h => by
    have h1 : m < u.recs.length := by omega
    have h2 : m < u.there.length := by omega
    have hz : (u.recs.zip u.there)[m]? = some (u.recs[m], u.there[m]) := by simp [List.getElem?_zip_eq_some, List.getElem?_eq_getElem h1, List.getElem?_eq_getElem h2]
    rw [slotsN, slots_sl u w hw ht m (by omega), List.take_add_one, hz, Option.toList_some, sl_snoc]
    congr 1
    have hl : (List.take m (u.recs.zip u.there)).length = m := by simp [ht]; omega
    rw [hl, slotAt, List.getElem?_eq_getElem h1, List.getElem?_eq_getElem h2, slot1, show u.width.toNat = w by omega, Nat.add_comm 1 m]
    cases u.there[m] <;> simp
theorem trim_last : ∀ (R : List (List UInt8 × Bool)), R.getLast?.map (·.2) ≠ some false → trimN R R.length = R.length
  | [], _ => rfl
  | x :: R, h => by
    rw [List.length_cons, trimN]
    have h1 : (x :: R)[R.length]? = (x :: R).getLast? := by rw [List.getLast?_eq_getElem?]; rfl
    rw [h1]
    cases e : (x :: R).getLast? with
    | none => simp at e
    | some y =>
      rw [e] at h
      cases hy : y.2 with
      | true => simp [hy]
      | false => simp [hy] at h
theorem open_dir (u : Un) (h : Vu u) (hac : u.access = 1) : odF u.width.toNat (bytesF u) = { u with pos := 0 } ∧ (bytesF u).length = u.recs.length * (u.width.toNat + 4) := by
  obtain ⟨h1, _⟩ | ⟨_, hw0, hw1, hn, ht, hst, hl, hb, he, hpz⟩ | ⟨h1, _⟩ := h
  · omega
  · obtain ⟨w, hw⟩ : ∃ w : Nat, u.width = (w : Int) := ⟨u.width.toNat, by omega⟩
    have e1 : bytesF u = slotsN u u.recs.length := by simp [bytesF, hac]
    have hzl : (u.recs.zip u.there).length = u.recs.length := by simp [ht]
    have e2 : bytesF u = sl w (u.recs.zip u.there) 1 := by
      rw [e1, slots_sl u w hw ht _ (Nat.le_refl _), List.take_of_length_le (by omega)]
    have hok : ∀ x ∈ u.recs.zip u.there, okR w x := by
      intro x hx
      obtain ⟨i, hi⟩ := List.getElem?_of_mem hx
      obtain ⟨s, t⟩ := x
      rw [List.getElem?_zip_eq_some] at hi
      have := hst i s t hi.1 hi.2
      unfold okR
      split
      · rename_i e; have e : t = true := e; rw [if_pos e] at this; show s.length = w; omega
      · rename_i e; have e : ¬ t = true := e; rw [if_neg e] at this; exact List.length_eq_zero_iff.1 (by show s.length = 0; omega)
    have e3 := scan_sl w (by omega) (u.recs.zip u.there) 1 60 hok (by omega) (by omega)
    have e4 : (u.recs.zip u.there).getLast?.map (·.2) ≠ some false := by
      intro e
      apply hl
      have : ((u.recs.zip u.there).map (·.2)).getLast? = some false := by rw [List.getLast?_map]; exact e
      rwa [List.map_snd_zip (by omega)] at this
    refine ⟨?_, ?_⟩
    · rw [show u.width.toNat = w by omega, e2, odF]
      simp only [e3, trim_last _ e4, List.take_length]
      rw [List.map_fst_zip (by omega), List.map_snd_zip (by omega)]
      obtain ⟨ac, wi, rs, th, by_, en, po⟩ := u
      simp at hac hw hb he
      simp [hac, hw, hb, he]
    · rw [e2, sl_len w _ 1 hok, hzl, show u.width.toNat = w by omega]
  · omega
theorem open_bytes (u : Un) (h : Vu u) : openF u.access u.width (bytesF u) = (({ u with pos := 0 }, 0), 0) := by
  have hv := h
  have hlen : (bytesF u).length ≤ 20000 := by
    exact bytesF_len h
  have hE : openE u.access u.width (bytesF u) = 0 := by
    have h1 : accF u.access u.width = 0 := by
      obtain ⟨h1, h2, _⟩ | ⟨h1, h2, h3, _⟩ | ⟨h1, h2, _⟩ := h
      · rw [h1, h2]; decide
      · simp [accF, h1, btw, h2, h3, orE, rfs]
      · rw [h1, h2]; decide
    have h2 : largeS (bytesF u) = false := by simp [largeS]; omega
    rw [openE, h1, h2]; rfl
  rw [openF, if_neg (fun h => h hE)]
  obtain ⟨h1, _⟩ | ⟨h1, hw0, hw1, hn, _⟩ | ⟨h1, hw, hr, ht, hb, he, _⟩ := h
  · rw [if_pos h1, open_seq u hv h1]; rfl
  · obtain ⟨h2, h3⟩ := open_dir u hv h1
    rw [if_neg (by omega), if_neg (by omega), h2, h3]
    rw [Nat.mul_div_cancel _ (by omega), Nat.min_eq_left hn]
    simp only [Int.natCast_mul, Int.natCast_add]
    congr 2
    exact Int.sub_self _
  · have e1 : bytesF u = u.bytes := by simp [bytesF, h1]
    rw [if_neg (by omega), if_pos h1, e1, List.take_of_length_le hb]
    obtain ⟨ac, wi, rs, th, by_, en, po⟩ := u
    simp at h1 hw hr ht he
    simp [h1, hw, hr, ht, he]
end Go.Proofs.Ythdgdngdfijfhaa
namespace Go.Proofs.Ythdgdngdfijfhaa
open Go.RowKit Go.Proofs
set_option linter.unusedVariables false
set_option linter.unusedSimpArgs false
attribute [local irreducible] PPure CallN Tops TopsDm T
theorem few_len {u : Un} (h : fewB u = true) : u.recs.length ≤ 64 ∧ u.there.length ≤ 64 := by
  unfold fewB at h
  simp at h
  omega
theorem runL_valid : ∀ (l : List Ac) (u : Un), Vu u → (∀ a ∈ l, actE a = 0) → Vu (runL u l).1
  | [], u, h, _ => h
  | a :: l, u, h, ha => runL_valid l _ (done_valid h (ha a List.mem_cons_self)) (fun b hb => ha b (List.mem_cons_of_mem _ hb))
theorem actsE_zero {l : List Ac} (h : (actsE l).2 = 0) : l.length ≤ 60 ∧ ∀ a ∈ l, actE a = 0 := by
  unfold actsE at h
  split at h
  · cases h
  · exact ⟨by omega, (actsL_zero l 0).1 h⟩
set_option maxHeartbeats 8000000 in
theorem law5 (u : Un) (l : List Ac) : PPure Try.prog 5 [encU u, .list .any (l.map encAc)] (.bool true) := by
  have h11 := p11
  have h12 := p12 u
  by_cases hf : fewB u = false
  · rw [hf] at h12
    simp only [encU] at h12 ⊢
    (refine ppure_of_T ok5 (by simp only [List.length_cons, List.length_nil]; decide) ?_; refine t_seq ?_)
    have hNE := True.intro; have hC := True.intro; have hA := True.intro; have hP := True.intro
    (replace hA := True.intro; replace hP := And.intro h11 (And.intro h12 (True.intro)); repeat' first | ((with_reducible apply gt_call); first | refine ce_callS ?_ | refine ce_callO ?_) | ((with_reducible apply gt_alloc); (refine ce_alloc ?_; intro la ha hn1; replace hNE := And.intro hNE hn1)) | ((with_reducible apply gt_box); (refine ce_boxL ?_; intro la ha hn1; replace hNE := And.intro hNE hn1)) | ((with_reducible apply gt_store); refine ce_store ?_) | ((with_reducible apply gt_gcall); first | refine ce_gcallS ?_ | refine ce_gcallO ?_ | ((with_reducible apply te_gcall2); exact rfl; (focus (simp (maxDischargeDepth := 8) (disch := first | (with_reducible apply Om.mk; first | (simp (maxDischargeDepth := 8) only [go_sem, hNE, hA]; done) | (clear hP hC hNE hA; first | omega | (simp only [List.length_append, List.length_take, List.length_drop, List.length_map, List.length_replicate]; omega))) | (simp (maxDischargeDepth := 8) only [go_sem, hNE, hA]; done) | fail) only [go_sem, hNE, hA]; first | done | exact rfl)); (focus (simp (maxDischargeDepth := 8) (disch := first | (with_reducible apply Om.mk; first | (simp (maxDischargeDepth := 8) only [go_sem, hNE, hA]; done) | (clear hP hC hNE hA; first | omega | (simp only [List.length_append, List.length_take, List.length_drop, List.length_map, List.length_replicate]; omega))) | (simp (maxDischargeDepth := 8) only [go_sem, hNE, hA]; done) | fail) only [go_sem, hNE, hA]; first | done | exact rfl)); (focus (intro hG hG2; simp (maxDischargeDepth := 8) (disch := first | (with_reducible apply Om.mk; first | (simp (maxDischargeDepth := 8) only [go_sem, hNE, hA]; done) | (clear hP hC hNE hA; first | omega | (simp only [List.length_append, List.length_take, List.length_drop, List.length_map, List.length_replicate]; omega))) | (simp (maxDischargeDepth := 8) only [go_sem, hNE, hA]; done) | fail) only [go_sem, hNE, hA, hG, hG2]; first | done | exact rfl)); (focus (simp (maxDischargeDepth := 8) (disch := first | (with_reducible apply Om.mk; first | (simp (maxDischargeDepth := 8) only [go_sem, hNE, hA]; done) | (clear hP hC hNE hA; first | omega | (simp only [List.length_append, List.length_take, List.length_drop, List.length_map, List.length_replicate]; omega))) | (simp (maxDischargeDepth := 8) only [go_sem, hNE, hA]; done) | fail) only [go_sem, hNE, hA]; done)); (intro hG hG2; first | exact h11 | exact h12)) | refine ce_gno ?_ | refine ce_gskip ?_ | refine ce_gno2 ?_) | ((with_reducible apply gt_g); first | refine ce_gval ?_ | refine ce_gno ?_ | refine ce_gskip ?_ | refine ce_gval2 ?_ | refine ce_gno2 ?_) | ((with_reducible apply gt_cond); first | refine c_cond ?_ ?_ | refine c_condB ?_ ?_) | ((with_reducible apply gt_any); refine ce_val ?_) | with_reducible first | refine k_seq ?_ | refine t_seq ?_ | refine t_reg ?_ | refine t_nil ?_ | refine t_skip ?_ | refine t_ret ?_ | refine t_exit ?_ | refine k_seq_exit ?_ | refine k_seq_ret ?_ | refine k_blk_exit ?_ | refine k_blk_other (by decide) ?_ | refine k_blk_ret ?_ | refine k_blk ?_ | refine t_block ?_ | refine m_nil ?_ | (with_reducible intro hc; with_reducible exact Bool.noConfusion hc) | (with_reducible intro hc la ha hn1; replace hNE := And.intro hNE hn1) | (with_reducible intro hc; replace hC := And.intro hC hc))
    all_goals ((first | refine cpendE rs5 ?_ | refine cpendNE rs5 ?_); (exact fin_eq))
  have hf : fewB u = true := by simpa using hf
  rw [hf] at h12
  obtain ⟨b1, b2⟩ := few_len hf
  by_cases hs : ¬ shortP l
  · have h23 := p23n l hs
    simp only [encU] at h12 ⊢
    (refine ppure_of_T ok5 (by simp only [List.length_cons, List.length_nil]; decide) ?_; refine t_seq ?_)
    have hNE := True.intro; have hC := True.intro; have hA := True.intro; have hP := True.intro
    (replace hA := True.intro; replace hP := And.intro h11 (And.intro h12 (And.intro h23 (True.intro))); repeat' first | ((with_reducible apply gt_call); first | refine ce_callS ?_ | refine ce_callO ?_) | ((with_reducible apply gt_alloc); (refine ce_alloc ?_; intro la ha hn1; replace hNE := And.intro hNE hn1)) | ((with_reducible apply gt_box); (refine ce_boxL ?_; intro la ha hn1; replace hNE := And.intro hNE hn1)) | ((with_reducible apply gt_store); refine ce_store ?_) | ((with_reducible apply gt_gcall); first | refine ce_gcallS ?_ | refine ce_gcallO ?_ | ((with_reducible apply te_gcall2); exact rfl; (focus (simp (maxDischargeDepth := 8) (disch := first | (with_reducible apply Om.mk; first | (simp (maxDischargeDepth := 8) only [go_sem, hNE, hA]; done) | (clear hP hC hNE hA; first | omega | (simp only [List.length_append, List.length_take, List.length_drop, List.length_map, List.length_replicate]; omega))) | (simp (maxDischargeDepth := 8) only [go_sem, hNE, hA]; done) | fail) only [go_sem, hNE, hA]; first | done | exact rfl)); (focus (simp (maxDischargeDepth := 8) (disch := first | (with_reducible apply Om.mk; first | (simp (maxDischargeDepth := 8) only [go_sem, hNE, hA]; done) | (clear hP hC hNE hA; first | omega | (simp only [List.length_append, List.length_take, List.length_drop, List.length_map, List.length_replicate]; omega))) | (simp (maxDischargeDepth := 8) only [go_sem, hNE, hA]; done) | fail) only [go_sem, hNE, hA]; first | done | exact rfl)); (focus (intro hG hG2; simp (maxDischargeDepth := 8) (disch := first | (with_reducible apply Om.mk; first | (simp (maxDischargeDepth := 8) only [go_sem, hNE, hA]; done) | (clear hP hC hNE hA; first | omega | (simp only [List.length_append, List.length_take, List.length_drop, List.length_map, List.length_replicate]; omega))) | (simp (maxDischargeDepth := 8) only [go_sem, hNE, hA]; done) | fail) only [go_sem, hNE, hA, hG, hG2]; first | done | exact rfl)); (focus (simp (maxDischargeDepth := 8) (disch := first | (with_reducible apply Om.mk; first | (simp (maxDischargeDepth := 8) only [go_sem, hNE, hA]; done) | (clear hP hC hNE hA; first | omega | (simp only [List.length_append, List.length_take, List.length_drop, List.length_map, List.length_replicate]; omega))) | (simp (maxDischargeDepth := 8) only [go_sem, hNE, hA]; done) | fail) only [go_sem, hNE, hA]; done)); (intro hG hG2; first | exact h11 | exact h12 | exact h23)) | refine ce_gno ?_ | refine ce_gskip ?_ | refine ce_gno2 ?_) | ((with_reducible apply gt_g); first | refine ce_gval ?_ | refine ce_gno ?_ | refine ce_gskip ?_ | refine ce_gval2 ?_ | refine ce_gno2 ?_) | ((with_reducible apply gt_cond); first | refine c_cond ?_ ?_ | refine c_condB ?_ ?_) | ((with_reducible apply gt_any); refine ce_val ?_) | with_reducible first | refine k_seq ?_ | refine t_seq ?_ | refine t_reg ?_ | refine t_nil ?_ | refine t_skip ?_ | refine t_ret ?_ | refine t_exit ?_ | refine k_seq_exit ?_ | refine k_seq_ret ?_ | refine k_blk_exit ?_ | refine k_blk_other (by decide) ?_ | refine k_blk_ret ?_ | refine k_blk ?_ | refine t_block ?_ | refine m_nil ?_ | (with_reducible intro hc; with_reducible exact Bool.noConfusion hc) | (with_reducible intro hc la ha hn1; replace hNE := And.intro hNE hn1) | (with_reducible intro hc; replace hC := And.intro hC hc))
    all_goals ((first | refine cpendE rs5 ?_ | refine cpendNE rs5 ?_); (exact fin_eq))
  have hs : shortP l := Classical.not_not.1 hs
  have h23 := p23y l hs
  have hll : l.length ≤ 63 := by have := hs.1; omega
  have h14 := p14 u (by omega) (by omega)
  have h25 := p25 l (by omega)
  have h24 := p24 u l (by omega) (by omega) (by omega)
  have h15 := p15 u (by omega) (by omega)
  have h26 := p26 l (by omega)
  by_cases hz : unitE u = 0
  · by_cases hz2 : (actsE l).2 = 0
    · obtain ⟨hl60, ha0⟩ := actsE_zero hz2
      have hv := (unitE_zero u).1 hz
      have hv2 := runL_valid l u hv ha0
      obtain ⟨n1, n2, _⟩ := Vu_len hv2
      have n3 := runL_len l u
      have h27 := p27 u l hv ha0 (by omega)
      have h19 := p19 (runL u l).1 (by omega) (by omega)
      have h28 := p28 (runL u l).2 (by omega)
      have hrg : runG u l = ((runL u l, (l.length : Int)), 0) := by rw [runG, if_pos hz, if_pos hz2]
      rw [hrg] at h24
      rw [hz] at h15
      rw [hz2] at h26
      generalize runL u l = q at h24 h19 h28 h27
      simp only [encU] at h12 h14 h24 h15 h27 h19 ⊢
      (refine ppure_of_T ok5 (by simp only [List.length_cons, List.length_nil]; decide) ?_; refine t_seq ?_)
      have hNE := True.intro; have hC := True.intro; have hA := True.intro; have hP := True.intro
      (replace hA := True.intro; replace hP := And.intro h11 (And.intro h12 (And.intro h23 (And.intro h14 (And.intro h25 (And.intro h24 (And.intro h15 (And.intro h26 (And.intro h27 (And.intro h19 (And.intro h28 (True.intro))))))))))); repeat' first | ((with_reducible apply gt_call); first | refine ce_callS ?_ | refine ce_callO ?_) | ((with_reducible apply gt_alloc); (refine ce_alloc ?_; intro la ha hn1; replace hNE := And.intro hNE hn1)) | ((with_reducible apply gt_box); (refine ce_boxL ?_; intro la ha hn1; replace hNE := And.intro hNE hn1)) | ((with_reducible apply gt_store); refine ce_store ?_) | ((with_reducible apply gt_gcall); first | refine ce_gcallS ?_ | refine ce_gcallO ?_ | ((with_reducible apply te_gcall2); exact rfl; (focus (simp (maxDischargeDepth := 8) (disch := first | (with_reducible apply Om.mk; first | (simp (maxDischargeDepth := 8) only [go_sem, hNE, hA]; done) | (clear hP hC hNE hA; first | omega | (simp only [List.length_append, List.length_take, List.length_drop, List.length_map, List.length_replicate]; omega))) | (simp (maxDischargeDepth := 8) only [go_sem, hNE, hA]; done) | fail) only [go_sem, hNE, hA]; first | done | exact rfl)); (focus (simp (maxDischargeDepth := 8) (disch := first | (with_reducible apply Om.mk; first | (simp (maxDischargeDepth := 8) only [go_sem, hNE, hA]; done) | (clear hP hC hNE hA; first | omega | (simp only [List.length_append, List.length_take, List.length_drop, List.length_map, List.length_replicate]; omega))) | (simp (maxDischargeDepth := 8) only [go_sem, hNE, hA]; done) | fail) only [go_sem, hNE, hA]; first | done | exact rfl)); (focus (intro hG hG2; simp (maxDischargeDepth := 8) (disch := first | (with_reducible apply Om.mk; first | (simp (maxDischargeDepth := 8) only [go_sem, hNE, hA]; done) | (clear hP hC hNE hA; first | omega | (simp only [List.length_append, List.length_take, List.length_drop, List.length_map, List.length_replicate]; omega))) | (simp (maxDischargeDepth := 8) only [go_sem, hNE, hA]; done) | fail) only [go_sem, hNE, hA, hG, hG2]; first | done | exact rfl)); (focus (simp (maxDischargeDepth := 8) (disch := first | (with_reducible apply Om.mk; first | (simp (maxDischargeDepth := 8) only [go_sem, hNE, hA]; done) | (clear hP hC hNE hA; first | omega | (simp only [List.length_append, List.length_take, List.length_drop, List.length_map, List.length_replicate]; omega))) | (simp (maxDischargeDepth := 8) only [go_sem, hNE, hA]; done) | fail) only [go_sem, hNE, hA]; done)); (intro hG hG2; first | exact h11 | exact h12 | exact h23 | exact h14 | exact h25 | exact h24 | exact h15 | exact h26 | exact h27 | exact h19 | exact h28)) | refine ce_gno ?_ | refine ce_gskip ?_ | refine ce_gno2 ?_) | ((with_reducible apply gt_g); first | refine ce_gval ?_ | refine ce_gno ?_ | refine ce_gskip ?_ | refine ce_gval2 ?_ | refine ce_gno2 ?_) | ((with_reducible apply gt_cond); first | refine c_cond ?_ ?_ | refine c_condB ?_ ?_) | ((with_reducible apply gt_any); refine ce_val ?_) | with_reducible first | refine k_seq ?_ | refine t_seq ?_ | refine t_reg ?_ | refine t_nil ?_ | refine t_skip ?_ | refine t_ret ?_ | refine t_exit ?_ | refine k_seq_exit ?_ | refine k_seq_ret ?_ | refine k_blk_exit ?_ | refine k_blk_other (by decide) ?_ | refine k_blk_ret ?_ | refine k_blk ?_ | refine t_block ?_ | refine m_nil ?_ | (with_reducible intro hc; with_reducible exact Bool.noConfusion hc) | (with_reducible intro hc la ha hn1; replace hNE := And.intro hNE hn1) | (with_reducible intro hc; replace hC := And.intro hC hc))
      all_goals ((first | refine cpendE rs5 ?_ | refine cpendNE rs5 ?_); (exact fin_eq))
    · have h19 := p19 zeU (by decide) (by decide)
      have hrg : runG u l = (((zeU, []), ((actsE l).1 : Int)), (actsE l).2) := by rw [runG, if_pos hz, if_neg hz2]
      rw [hrg] at h24
      rw [hz] at h15
      generalize actsE l = q at h24 h26 hz2
      simp only [encU, zeU, List.map_nil] at h12 h14 h24 h15 h19 ⊢
      (refine ppure_of_T ok5 (by simp only [List.length_cons, List.length_nil]; decide) ?_; refine t_seq ?_)
      have hNE := True.intro; have hC := True.intro; have hA := True.intro; have hP := True.intro
      (replace hA := True.intro; replace hP := And.intro h11 (And.intro h12 (And.intro h23 (And.intro h14 (And.intro h25 (And.intro h24 (And.intro h15 (And.intro h26 (And.intro h19 (True.intro))))))))); repeat' first | ((with_reducible apply gt_call); first | refine ce_callS ?_ | refine ce_callO ?_) | ((with_reducible apply gt_alloc); (refine ce_alloc ?_; intro la ha hn1; replace hNE := And.intro hNE hn1)) | ((with_reducible apply gt_box); (refine ce_boxL ?_; intro la ha hn1; replace hNE := And.intro hNE hn1)) | ((with_reducible apply gt_store); refine ce_store ?_) | ((with_reducible apply gt_gcall); first | refine ce_gcallS ?_ | refine ce_gcallO ?_ | ((with_reducible apply te_gcall2); exact rfl; (focus (simp (maxDischargeDepth := 8) (disch := first | (with_reducible apply Om.mk; first | (simp (maxDischargeDepth := 8) only [go_sem, hNE, hA]; done) | (clear hP hC hNE hA; first | omega | (simp only [List.length_append, List.length_take, List.length_drop, List.length_map, List.length_replicate]; omega))) | (simp (maxDischargeDepth := 8) only [go_sem, hNE, hA]; done) | fail) only [go_sem, hNE, hA]; first | done | exact rfl)); (focus (simp (maxDischargeDepth := 8) (disch := first | (with_reducible apply Om.mk; first | (simp (maxDischargeDepth := 8) only [go_sem, hNE, hA]; done) | (clear hP hC hNE hA; first | omega | (simp only [List.length_append, List.length_take, List.length_drop, List.length_map, List.length_replicate]; omega))) | (simp (maxDischargeDepth := 8) only [go_sem, hNE, hA]; done) | fail) only [go_sem, hNE, hA]; first | done | exact rfl)); (focus (intro hG hG2; simp (maxDischargeDepth := 8) (disch := first | (with_reducible apply Om.mk; first | (simp (maxDischargeDepth := 8) only [go_sem, hNE, hA]; done) | (clear hP hC hNE hA; first | omega | (simp only [List.length_append, List.length_take, List.length_drop, List.length_map, List.length_replicate]; omega))) | (simp (maxDischargeDepth := 8) only [go_sem, hNE, hA]; done) | fail) only [go_sem, hNE, hA, hG, hG2]; first | done | exact rfl)); (focus (simp (maxDischargeDepth := 8) (disch := first | (with_reducible apply Om.mk; first | (simp (maxDischargeDepth := 8) only [go_sem, hNE, hA]; done) | (clear hP hC hNE hA; first | omega | (simp only [List.length_append, List.length_take, List.length_drop, List.length_map, List.length_replicate]; omega))) | (simp (maxDischargeDepth := 8) only [go_sem, hNE, hA]; done) | fail) only [go_sem, hNE, hA]; done)); (intro hG hG2; first | exact h11 | exact h12 | exact h23 | exact h14 | exact h25 | exact h24 | exact h15 | exact h26 | exact h19)) | refine ce_gno ?_ | refine ce_gskip ?_ | refine ce_gno2 ?_) | ((with_reducible apply gt_g); first | refine ce_gval ?_ | refine ce_gno ?_ | refine ce_gskip ?_ | refine ce_gval2 ?_ | refine ce_gno2 ?_) | ((with_reducible apply gt_cond); first | refine c_cond ?_ ?_ | refine c_condB ?_ ?_) | ((with_reducible apply gt_any); refine ce_val ?_) | with_reducible first | refine k_seq ?_ | refine t_seq ?_ | refine t_reg ?_ | refine t_nil ?_ | refine t_skip ?_ | refine t_ret ?_ | refine t_exit ?_ | refine k_seq_exit ?_ | refine k_seq_ret ?_ | refine k_blk_exit ?_ | refine k_blk_other (by decide) ?_ | refine k_blk_ret ?_ | refine k_blk ?_ | refine t_block ?_ | refine m_nil ?_ | (with_reducible intro hc; with_reducible exact Bool.noConfusion hc) | (with_reducible intro hc la ha hn1; replace hNE := And.intro hNE hn1) | (with_reducible intro hc; replace hC := And.intro hC hc))
      all_goals ((first | refine cpendE rs5 ?_ | refine cpendNE rs5 ?_); (exact fin_eq))
  · have h19 := p19 zeU (by decide) (by decide)
    have hrg : runG u l = (((zeU, []), 0), unitE u) := by rw [runG, if_neg hz]
    rw [hrg] at h24
    generalize unitE u = c at h24 h15 hz
    simp only [encU, zeU, List.map_nil] at h12 h14 h24 h15 h19 ⊢
    (refine ppure_of_T ok5 (by simp only [List.length_cons, List.length_nil]; decide) ?_; refine t_seq ?_)
    have hNE := True.intro; have hC := True.intro; have hA := True.intro; have hP := True.intro
    (replace hA := True.intro; replace hP := And.intro h11 (And.intro h12 (And.intro h23 (And.intro h14 (And.intro h25 (And.intro h24 (And.intro h15 (And.intro h26 (And.intro h19 (True.intro))))))))); repeat' first | ((with_reducible apply gt_call); first | refine ce_callS ?_ | refine ce_callO ?_) | ((with_reducible apply gt_alloc); (refine ce_alloc ?_; intro la ha hn1; replace hNE := And.intro hNE hn1)) | ((with_reducible apply gt_box); (refine ce_boxL ?_; intro la ha hn1; replace hNE := And.intro hNE hn1)) | ((with_reducible apply gt_store); refine ce_store ?_) | ((with_reducible apply gt_gcall); first | refine ce_gcallS ?_ | refine ce_gcallO ?_ | ((with_reducible apply te_gcall2); exact rfl; (focus (simp (maxDischargeDepth := 8) (disch := first | (with_reducible apply Om.mk; first | (simp (maxDischargeDepth := 8) only [go_sem, hNE, hA]; done) | (clear hP hC hNE hA; first | omega | (simp only [List.length_append, List.length_take, List.length_drop, List.length_map, List.length_replicate]; omega))) | (simp (maxDischargeDepth := 8) only [go_sem, hNE, hA]; done) | fail) only [go_sem, hNE, hA]; first | done | exact rfl)); (focus (simp (maxDischargeDepth := 8) (disch := first | (with_reducible apply Om.mk; first | (simp (maxDischargeDepth := 8) only [go_sem, hNE, hA]; done) | (clear hP hC hNE hA; first | omega | (simp only [List.length_append, List.length_take, List.length_drop, List.length_map, List.length_replicate]; omega))) | (simp (maxDischargeDepth := 8) only [go_sem, hNE, hA]; done) | fail) only [go_sem, hNE, hA]; first | done | exact rfl)); (focus (intro hG hG2; simp (maxDischargeDepth := 8) (disch := first | (with_reducible apply Om.mk; first | (simp (maxDischargeDepth := 8) only [go_sem, hNE, hA]; done) | (clear hP hC hNE hA; first | omega | (simp only [List.length_append, List.length_take, List.length_drop, List.length_map, List.length_replicate]; omega))) | (simp (maxDischargeDepth := 8) only [go_sem, hNE, hA]; done) | fail) only [go_sem, hNE, hA, hG, hG2]; first | done | exact rfl)); (focus (simp (maxDischargeDepth := 8) (disch := first | (with_reducible apply Om.mk; first | (simp (maxDischargeDepth := 8) only [go_sem, hNE, hA]; done) | (clear hP hC hNE hA; first | omega | (simp only [List.length_append, List.length_take, List.length_drop, List.length_map, List.length_replicate]; omega))) | (simp (maxDischargeDepth := 8) only [go_sem, hNE, hA]; done) | fail) only [go_sem, hNE, hA]; done)); (intro hG hG2; first | exact h11 | exact h12 | exact h23 | exact h14 | exact h25 | exact h24 | exact h15 | exact h26 | exact h19)) | refine ce_gno ?_ | refine ce_gskip ?_ | refine ce_gno2 ?_) | ((with_reducible apply gt_g); first | refine ce_gval ?_ | refine ce_gno ?_ | refine ce_gskip ?_ | refine ce_gval2 ?_ | refine ce_gno2 ?_) | ((with_reducible apply gt_cond); first | refine c_cond ?_ ?_ | refine c_condB ?_ ?_) | ((with_reducible apply gt_any); refine ce_val ?_) | with_reducible first | refine k_seq ?_ | refine t_seq ?_ | refine t_reg ?_ | refine t_nil ?_ | refine t_skip ?_ | refine t_ret ?_ | refine t_exit ?_ | refine k_seq_exit ?_ | refine k_seq_ret ?_ | refine k_blk_exit ?_ | refine k_blk_other (by decide) ?_ | refine k_blk_ret ?_ | refine k_blk ?_ | refine t_block ?_ | refine m_nil ?_ | (with_reducible intro hc; with_reducible exact Bool.noConfusion hc) | (with_reducible intro hc la ha hn1; replace hNE := And.intro hNE hn1) | (with_reducible intro hc; replace hC := And.intro hC hc))
    all_goals ((first | refine cpendE rs5 ?_ | refine cpendNE rs5 ?_); (exact fin_eq))
end Go.Proofs.Ythdgdngdfijfhaa
namespace Go.Proofs.Ythdgdngdfijfhaa
open Go.RowKit Go.Proofs
set_option linter.unusedVariables false
set_option linter.unusedSimpArgs false
attribute [local irreducible] PPure CallN Tops TopsDm T
set_option maxHeartbeats 8000000 in
theorem law6 (u : Un) (a : Ac) : PPure Try.prog 6 [encU u, encAc a] (.bool true) := by
  have h11 := p11
  have h12 := p12 u
  by_cases hf : fewB u = false
  · rw [hf] at h12
    simp only [encU, encAc] at h12 ⊢
    (refine ppure_of_T ok6 (by simp only [List.length_cons, List.length_nil]; decide) ?_; refine t_seq ?_)
    have hNE := True.intro; have hC := True.intro; have hA := True.intro; have hP := True.intro
    (replace hA := True.intro; replace hP := And.intro h11 (And.intro h12 (True.intro)); repeat' first | ((with_reducible apply gt_call); first | refine ce_callS ?_ | refine ce_callO ?_) | ((with_reducible apply gt_alloc); (refine ce_alloc ?_; intro la ha hn1; replace hNE := And.intro hNE hn1)) | ((with_reducible apply gt_box); (refine ce_boxL ?_; intro la ha hn1; replace hNE := And.intro hNE hn1)) | ((with_reducible apply gt_store); refine ce_store ?_) | ((with_reducible apply gt_gcall); first | refine ce_gcallS ?_ | refine ce_gcallO ?_ | ((with_reducible apply te_gcall2); exact rfl; (focus (simp (maxDischargeDepth := 8) (disch := first | (with_reducible apply Om.mk; first | (simp (maxDischargeDepth := 8) only [go_sem, hNE, hA]; done) | (clear hP hC hNE hA; first | omega | (simp only [List.length_append, List.length_take, List.length_drop, List.length_map, List.length_replicate]; omega))) | (simp (maxDischargeDepth := 8) only [go_sem, hNE, hA]; done) | fail) only [go_sem, hNE, hA]; first | done | exact rfl)); (focus (simp (maxDischargeDepth := 8) (disch := first | (with_reducible apply Om.mk; first | (simp (maxDischargeDepth := 8) only [go_sem, hNE, hA]; done) | (clear hP hC hNE hA; first | omega | (simp only [List.length_append, List.length_take, List.length_drop, List.length_map, List.length_replicate]; omega))) | (simp (maxDischargeDepth := 8) only [go_sem, hNE, hA]; done) | fail) only [go_sem, hNE, hA]; first | done | exact rfl)); (focus (intro hG hG2; simp (maxDischargeDepth := 8) (disch := first | (with_reducible apply Om.mk; first | (simp (maxDischargeDepth := 8) only [go_sem, hNE, hA]; done) | (clear hP hC hNE hA; first | omega | (simp only [List.length_append, List.length_take, List.length_drop, List.length_map, List.length_replicate]; omega))) | (simp (maxDischargeDepth := 8) only [go_sem, hNE, hA]; done) | fail) only [go_sem, hNE, hA, hG, hG2]; first | done | exact rfl)); (focus (simp (maxDischargeDepth := 8) (disch := first | (with_reducible apply Om.mk; first | (simp (maxDischargeDepth := 8) only [go_sem, hNE, hA]; done) | (clear hP hC hNE hA; first | omega | (simp only [List.length_append, List.length_take, List.length_drop, List.length_map, List.length_replicate]; omega))) | (simp (maxDischargeDepth := 8) only [go_sem, hNE, hA]; done) | fail) only [go_sem, hNE, hA]; done)); (intro hG hG2; first | exact h11 | exact h12)) | refine ce_gno ?_ | refine ce_gskip ?_ | refine ce_gno2 ?_) | ((with_reducible apply gt_g); first | refine ce_gval ?_ | refine ce_gno ?_ | refine ce_gskip ?_ | refine ce_gval2 ?_ | refine ce_gno2 ?_) | ((with_reducible apply gd_call); first | refine de_callS ?_ | refine de_callO ?_) | ((with_reducible apply gd_alloc); (refine de_alloc ?_; intro la ha hn1; replace hNE := And.intro hNE hn1)) | ((with_reducible apply gd_store); first | refine de_store ?_ | refine de_storeZ ?_) | ((with_reducible apply gt_cond); first | refine c_cond ?_ ?_ | refine c_condB ?_ ?_) | ((with_reducible apply gt_any); refine ce_val ?_) | ((with_reducible apply gd_any); refine de_val ?_) | ((with_reducible apply gt_drw); first | refine ce_drwA ?_ | refine ce_drwE ?_ | refine ce_drwK ?_ | refine ce_drwZ ?_) | with_reducible first | refine k_seq ?_ | refine t_seq ?_ | refine t_reg ?_ | refine t_nil ?_ | refine t_skip ?_ | refine t_ret ?_ | refine t_exit ?_ | refine k_seq_exit ?_ | refine k_seq_ret ?_ | refine k_blk_exit ?_ | refine k_blk_other (by decide) ?_ | refine k_blk_ret ?_ | refine k_blk ?_ | refine t_block ?_ | refine m_nil ?_ | (with_reducible intro hc; with_reducible exact Bool.noConfusion hc) | (with_reducible intro hc la ha hn1; replace hNE := And.intro hNE hn1) | (with_reducible intro hc; replace hC := And.intro hC hc))
    all_goals ((first | refine cpendE rs6 ?_ | refine cpendNE rs6 ?_); (exact fin_eq))
  have hf : fewB u = true := by simpa using hf
  rw [hf] at h12
  obtain ⟨b1, b2⟩ := few_len hf
  by_cases hs : ¬ shortP [a]
  · have h23 := p23n [a] hs
    simp only [encU, encAc, List.map_cons, List.map_nil] at h12 h23 ⊢
    (refine ppure_of_T ok6 (by simp only [List.length_cons, List.length_nil]; decide) ?_; refine t_seq ?_)
    have hNE := True.intro; have hC := True.intro; have hA := True.intro; have hP := True.intro
    (replace hA := True.intro; replace hP := And.intro h11 (And.intro h12 (And.intro h23 (True.intro))); repeat' first | ((with_reducible apply gt_call); first | refine ce_callS ?_ | refine ce_callO ?_) | ((with_reducible apply gt_alloc); (refine ce_alloc ?_; intro la ha hn1; replace hNE := And.intro hNE hn1)) | ((with_reducible apply gt_box); (refine ce_boxL ?_; intro la ha hn1; replace hNE := And.intro hNE hn1)) | ((with_reducible apply gt_store); refine ce_store ?_) | ((with_reducible apply gt_gcall); first | refine ce_gcallS ?_ | refine ce_gcallO ?_ | ((with_reducible apply te_gcall2); exact rfl; (focus (simp (maxDischargeDepth := 8) (disch := first | (with_reducible apply Om.mk; first | (simp (maxDischargeDepth := 8) only [go_sem, hNE, hA]; done) | (clear hP hC hNE hA; first | omega | (simp only [List.length_append, List.length_take, List.length_drop, List.length_map, List.length_replicate]; omega))) | (simp (maxDischargeDepth := 8) only [go_sem, hNE, hA]; done) | fail) only [go_sem, hNE, hA]; first | done | exact rfl)); (focus (simp (maxDischargeDepth := 8) (disch := first | (with_reducible apply Om.mk; first | (simp (maxDischargeDepth := 8) only [go_sem, hNE, hA]; done) | (clear hP hC hNE hA; first | omega | (simp only [List.length_append, List.length_take, List.length_drop, List.length_map, List.length_replicate]; omega))) | (simp (maxDischargeDepth := 8) only [go_sem, hNE, hA]; done) | fail) only [go_sem, hNE, hA]; first | done | exact rfl)); (focus (intro hG hG2; simp (maxDischargeDepth := 8) (disch := first | (with_reducible apply Om.mk; first | (simp (maxDischargeDepth := 8) only [go_sem, hNE, hA]; done) | (clear hP hC hNE hA; first | omega | (simp only [List.length_append, List.length_take, List.length_drop, List.length_map, List.length_replicate]; omega))) | (simp (maxDischargeDepth := 8) only [go_sem, hNE, hA]; done) | fail) only [go_sem, hNE, hA, hG, hG2]; first | done | exact rfl)); (focus (simp (maxDischargeDepth := 8) (disch := first | (with_reducible apply Om.mk; first | (simp (maxDischargeDepth := 8) only [go_sem, hNE, hA]; done) | (clear hP hC hNE hA; first | omega | (simp only [List.length_append, List.length_take, List.length_drop, List.length_map, List.length_replicate]; omega))) | (simp (maxDischargeDepth := 8) only [go_sem, hNE, hA]; done) | fail) only [go_sem, hNE, hA]; done)); (intro hG hG2; first | exact h11 | exact h12 | exact h23)) | refine ce_gno ?_ | refine ce_gskip ?_ | refine ce_gno2 ?_) | ((with_reducible apply gt_g); first | refine ce_gval ?_ | refine ce_gno ?_ | refine ce_gskip ?_ | refine ce_gval2 ?_ | refine ce_gno2 ?_) | ((with_reducible apply gd_call); first | refine de_callS ?_ | refine de_callO ?_) | ((with_reducible apply gd_alloc); (refine de_alloc ?_; intro la ha hn1; replace hNE := And.intro hNE hn1)) | ((with_reducible apply gd_store); first | refine de_store ?_ | refine de_storeZ ?_) | ((with_reducible apply gt_cond); first | refine c_cond ?_ ?_ | refine c_condB ?_ ?_) | ((with_reducible apply gt_any); refine ce_val ?_) | ((with_reducible apply gd_any); refine de_val ?_) | ((with_reducible apply gt_drw); first | refine ce_drwA ?_ | refine ce_drwE ?_ | refine ce_drwK ?_ | refine ce_drwZ ?_) | with_reducible first | refine k_seq ?_ | refine t_seq ?_ | refine t_reg ?_ | refine t_nil ?_ | refine t_skip ?_ | refine t_ret ?_ | refine t_exit ?_ | refine k_seq_exit ?_ | refine k_seq_ret ?_ | refine k_blk_exit ?_ | refine k_blk_other (by decide) ?_ | refine k_blk_ret ?_ | refine k_blk ?_ | refine t_block ?_ | refine m_nil ?_ | (with_reducible intro hc; with_reducible exact Bool.noConfusion hc) | (with_reducible intro hc la ha hn1; replace hNE := And.intro hNE hn1) | (with_reducible intro hc; replace hC := And.intro hC hc))
    all_goals ((first | refine cpendE rs6 ?_ | refine cpendNE rs6 ?_); (exact fin_eq))
  have hs : shortP [a] := Classical.not_not.1 hs
  have h23 := p23y [a] hs
  have h14 := p14 u (by omega) (by omega)
  have h29 := p29 u a (by omega) (by omega)
  have h30 := p30 u a (by omega) (by omega)
  have h15 := p15 u (by omega) (by omega)
  have h31 := p31 a
  by_cases hz : unitE u = 0
  · by_cases hz2 : actE a = 0
    · obtain ⟨⟨hk0, hk1⟩, hbl, _⟩ := (actE_zero _).1 hz2
      have hv := (unitE_zero u).1 hz
      have hv2 := done_valid hv hz2
      obtain ⟨n1, n2, _⟩ := Vu_len hv2
      have h32 := p32 u a hv hk0 hk1 hbl
      have h19 := p19 (doneF u a).1 (by omega) (by omega)
      have hrg : doneG u a = (doneF u a, 0) := by rw [doneG, if_pos (by simp [orE, hz, hz2])]
      rw [hrg] at h29 h30
      rw [hz] at h15
      rw [hz2] at h31
      generalize doneF u a = q at h29 h30 h32 h19
      simp only [encU, encAc, encAn, List.map_cons, List.map_nil] at h12 h14 h15 h19 h23 h29 h30 h31 h32 ⊢
      (refine ppure_of_T ok6 (by simp only [List.length_cons, List.length_nil]; decide) ?_; refine t_seq ?_)
      have hNE := True.intro; have hC := True.intro; have hA := True.intro; have hP := True.intro
      (replace hA := True.intro; replace hP := And.intro h11 (And.intro h12 (And.intro h23 (And.intro h14 (And.intro h29 (And.intro h30 (And.intro h15 (And.intro h31 (And.intro h32 (And.intro h19 (True.intro)))))))))); repeat' first | ((with_reducible apply gt_call); first | refine ce_callS ?_ | refine ce_callO ?_) | ((with_reducible apply gt_alloc); (refine ce_alloc ?_; intro la ha hn1; replace hNE := And.intro hNE hn1)) | ((with_reducible apply gt_box); (refine ce_boxL ?_; intro la ha hn1; replace hNE := And.intro hNE hn1)) | ((with_reducible apply gt_store); refine ce_store ?_) | ((with_reducible apply gt_gcall); first | refine ce_gcallS ?_ | refine ce_gcallO ?_ | ((with_reducible apply te_gcall2); exact rfl; (focus (simp (maxDischargeDepth := 8) (disch := first | (with_reducible apply Om.mk; first | (simp (maxDischargeDepth := 8) only [go_sem, hNE, hA]; done) | (clear hP hC hNE hA; first | omega | (simp only [List.length_append, List.length_take, List.length_drop, List.length_map, List.length_replicate]; omega))) | (simp (maxDischargeDepth := 8) only [go_sem, hNE, hA]; done) | fail) only [go_sem, hNE, hA]; first | done | exact rfl)); (focus (simp (maxDischargeDepth := 8) (disch := first | (with_reducible apply Om.mk; first | (simp (maxDischargeDepth := 8) only [go_sem, hNE, hA]; done) | (clear hP hC hNE hA; first | omega | (simp only [List.length_append, List.length_take, List.length_drop, List.length_map, List.length_replicate]; omega))) | (simp (maxDischargeDepth := 8) only [go_sem, hNE, hA]; done) | fail) only [go_sem, hNE, hA]; first | done | exact rfl)); (focus (intro hG hG2; simp (maxDischargeDepth := 8) (disch := first | (with_reducible apply Om.mk; first | (simp (maxDischargeDepth := 8) only [go_sem, hNE, hA]; done) | (clear hP hC hNE hA; first | omega | (simp only [List.length_append, List.length_take, List.length_drop, List.length_map, List.length_replicate]; omega))) | (simp (maxDischargeDepth := 8) only [go_sem, hNE, hA]; done) | fail) only [go_sem, hNE, hA, hG, hG2]; first | done | exact rfl)); (focus (simp (maxDischargeDepth := 8) (disch := first | (with_reducible apply Om.mk; first | (simp (maxDischargeDepth := 8) only [go_sem, hNE, hA]; done) | (clear hP hC hNE hA; first | omega | (simp only [List.length_append, List.length_take, List.length_drop, List.length_map, List.length_replicate]; omega))) | (simp (maxDischargeDepth := 8) only [go_sem, hNE, hA]; done) | fail) only [go_sem, hNE, hA]; done)); (intro hG hG2; first | exact h11 | exact h12 | exact h23 | exact h14 | exact h29 | exact h30 | exact h15 | exact h31 | exact h32 | exact h19)) | refine ce_gno ?_ | refine ce_gskip ?_ | refine ce_gno2 ?_) | ((with_reducible apply gt_g); first | refine ce_gval ?_ | refine ce_gno ?_ | refine ce_gskip ?_ | refine ce_gval2 ?_ | refine ce_gno2 ?_) | ((with_reducible apply gd_call); first | refine de_callS ?_ | refine de_callO ?_) | ((with_reducible apply gd_alloc); (refine de_alloc ?_; intro la ha hn1; replace hNE := And.intro hNE hn1)) | ((with_reducible apply gd_store); first | refine de_store ?_ | refine de_storeZ ?_) | ((with_reducible apply gt_cond); first | refine c_cond ?_ ?_ | refine c_condB ?_ ?_) | ((with_reducible apply gt_any); refine ce_val ?_) | ((with_reducible apply gd_any); refine de_val ?_) | ((with_reducible apply gt_drw); first | refine ce_drwA ?_ | refine ce_drwE ?_ | refine ce_drwK ?_ | refine ce_drwZ ?_) | with_reducible first | refine k_seq ?_ | refine t_seq ?_ | refine t_reg ?_ | refine t_nil ?_ | refine t_skip ?_ | refine t_ret ?_ | refine t_exit ?_ | refine k_seq_exit ?_ | refine k_seq_ret ?_ | refine k_blk_exit ?_ | refine k_blk_other (by decide) ?_ | refine k_blk_ret ?_ | refine k_blk ?_ | refine t_block ?_ | refine m_nil ?_ | (with_reducible intro hc; with_reducible exact Bool.noConfusion hc) | (with_reducible intro hc la ha hn1; replace hNE := And.intro hNE hn1) | (with_reducible intro hc; replace hC := And.intro hC hc))
      all_goals ((first | refine cpendE rs6 ?_ | refine cpendNE rs6 ?_); (exact fin_eq))
    · have h19 := p19 zeU (by decide) (by decide)
      have hrg : doneG u a = ((zeU, zeA), actE a) := by rw [doneG]; simp [orE, hz, hz2]
      rw [hrg] at h29 h30
      rw [hz] at h15
      generalize actE a = q at h29 h30 h31 hz2
      simp only [encU, encAc, encAn, zeU, zeA, List.map_cons, List.map_nil] at h12 h14 h15 h19 h23 h29 h30 h31 ⊢
      (refine ppure_of_T ok6 (by simp only [List.length_cons, List.length_nil]; decide) ?_; refine t_seq ?_)
      have hNE := True.intro; have hC := True.intro; have hA := True.intro; have hP := True.intro
      (replace hA := True.intro; replace hP := And.intro h11 (And.intro h12 (And.intro h23 (And.intro h14 (And.intro h29 (And.intro h30 (And.intro h15 (And.intro h31 (And.intro h19 (True.intro))))))))); repeat' first | ((with_reducible apply gt_call); first | refine ce_callS ?_ | refine ce_callO ?_) | ((with_reducible apply gt_alloc); (refine ce_alloc ?_; intro la ha hn1; replace hNE := And.intro hNE hn1)) | ((with_reducible apply gt_box); (refine ce_boxL ?_; intro la ha hn1; replace hNE := And.intro hNE hn1)) | ((with_reducible apply gt_store); refine ce_store ?_) | ((with_reducible apply gt_gcall); first | refine ce_gcallS ?_ | refine ce_gcallO ?_ | ((with_reducible apply te_gcall2); exact rfl; (focus (simp (maxDischargeDepth := 8) (disch := first | (with_reducible apply Om.mk; first | (simp (maxDischargeDepth := 8) only [go_sem, hNE, hA]; done) | (clear hP hC hNE hA; first | omega | (simp only [List.length_append, List.length_take, List.length_drop, List.length_map, List.length_replicate]; omega))) | (simp (maxDischargeDepth := 8) only [go_sem, hNE, hA]; done) | fail) only [go_sem, hNE, hA]; first | done | exact rfl)); (focus (simp (maxDischargeDepth := 8) (disch := first | (with_reducible apply Om.mk; first | (simp (maxDischargeDepth := 8) only [go_sem, hNE, hA]; done) | (clear hP hC hNE hA; first | omega | (simp only [List.length_append, List.length_take, List.length_drop, List.length_map, List.length_replicate]; omega))) | (simp (maxDischargeDepth := 8) only [go_sem, hNE, hA]; done) | fail) only [go_sem, hNE, hA]; first | done | exact rfl)); (focus (intro hG hG2; simp (maxDischargeDepth := 8) (disch := first | (with_reducible apply Om.mk; first | (simp (maxDischargeDepth := 8) only [go_sem, hNE, hA]; done) | (clear hP hC hNE hA; first | omega | (simp only [List.length_append, List.length_take, List.length_drop, List.length_map, List.length_replicate]; omega))) | (simp (maxDischargeDepth := 8) only [go_sem, hNE, hA]; done) | fail) only [go_sem, hNE, hA, hG, hG2]; first | done | exact rfl)); (focus (simp (maxDischargeDepth := 8) (disch := first | (with_reducible apply Om.mk; first | (simp (maxDischargeDepth := 8) only [go_sem, hNE, hA]; done) | (clear hP hC hNE hA; first | omega | (simp only [List.length_append, List.length_take, List.length_drop, List.length_map, List.length_replicate]; omega))) | (simp (maxDischargeDepth := 8) only [go_sem, hNE, hA]; done) | fail) only [go_sem, hNE, hA]; done)); (intro hG hG2; first | exact h11 | exact h12 | exact h23 | exact h14 | exact h29 | exact h30 | exact h15 | exact h31 | exact h19)) | refine ce_gno ?_ | refine ce_gskip ?_ | refine ce_gno2 ?_) | ((with_reducible apply gt_g); first | refine ce_gval ?_ | refine ce_gno ?_ | refine ce_gskip ?_ | refine ce_gval2 ?_ | refine ce_gno2 ?_) | ((with_reducible apply gd_call); first | refine de_callS ?_ | refine de_callO ?_) | ((with_reducible apply gd_alloc); (refine de_alloc ?_; intro la ha hn1; replace hNE := And.intro hNE hn1)) | ((with_reducible apply gd_store); first | refine de_store ?_ | refine de_storeZ ?_) | ((with_reducible apply gt_cond); first | refine c_cond ?_ ?_ | refine c_condB ?_ ?_) | ((with_reducible apply gt_any); refine ce_val ?_) | ((with_reducible apply gd_any); refine de_val ?_) | ((with_reducible apply gt_drw); first | refine ce_drwA ?_ | refine ce_drwE ?_ | refine ce_drwK ?_ | refine ce_drwZ ?_) | with_reducible first | refine k_seq ?_ | refine t_seq ?_ | refine t_reg ?_ | refine t_nil ?_ | refine t_skip ?_ | refine t_ret ?_ | refine t_exit ?_ | refine k_seq_exit ?_ | refine k_seq_ret ?_ | refine k_blk_exit ?_ | refine k_blk_other (by decide) ?_ | refine k_blk_ret ?_ | refine k_blk ?_ | refine t_block ?_ | refine m_nil ?_ | (with_reducible intro hc; with_reducible exact Bool.noConfusion hc) | (with_reducible intro hc la ha hn1; replace hNE := And.intro hNE hn1) | (with_reducible intro hc; replace hC := And.intro hC hc))
      all_goals ((first | refine cpendE rs6 ?_ | refine cpendNE rs6 ?_); (exact fin_eq))
  · have h19 := p19 zeU (by decide) (by decide)
    have hrg : doneG u a = ((zeU, zeA), unitE u) := by rw [doneG]; simp [orE, hz]
    rw [hrg] at h29 h30
    generalize unitE u = c at h29 h30 h15 hz
    simp only [encU, encAc, encAn, zeU, zeA, List.map_cons, List.map_nil] at h12 h14 h15 h19 h23 h29 h30 h31 ⊢
    (refine ppure_of_T ok6 (by simp only [List.length_cons, List.length_nil]; decide) ?_; refine t_seq ?_)
    have hNE := True.intro; have hC := True.intro; have hA := True.intro; have hP := True.intro
    (replace hA := True.intro; replace hP := And.intro h11 (And.intro h12 (And.intro h23 (And.intro h14 (And.intro h29 (And.intro h30 (And.intro h15 (And.intro h31 (And.intro h19 (True.intro))))))))); repeat' first | ((with_reducible apply gt_call); first | refine ce_callS ?_ | refine ce_callO ?_) | ((with_reducible apply gt_alloc); (refine ce_alloc ?_; intro la ha hn1; replace hNE := And.intro hNE hn1)) | ((with_reducible apply gt_box); (refine ce_boxL ?_; intro la ha hn1; replace hNE := And.intro hNE hn1)) | ((with_reducible apply gt_store); refine ce_store ?_) | ((with_reducible apply gt_gcall); first | refine ce_gcallS ?_ | refine ce_gcallO ?_ | ((with_reducible apply te_gcall2); exact rfl; (focus (simp (maxDischargeDepth := 8) (disch := first | (with_reducible apply Om.mk; first | (simp (maxDischargeDepth := 8) only [go_sem, hNE, hA]; done) | (clear hP hC hNE hA; first | omega | (simp only [List.length_append, List.length_take, List.length_drop, List.length_map, List.length_replicate]; omega))) | (simp (maxDischargeDepth := 8) only [go_sem, hNE, hA]; done) | fail) only [go_sem, hNE, hA]; first | done | exact rfl)); (focus (simp (maxDischargeDepth := 8) (disch := first | (with_reducible apply Om.mk; first | (simp (maxDischargeDepth := 8) only [go_sem, hNE, hA]; done) | (clear hP hC hNE hA; first | omega | (simp only [List.length_append, List.length_take, List.length_drop, List.length_map, List.length_replicate]; omega))) | (simp (maxDischargeDepth := 8) only [go_sem, hNE, hA]; done) | fail) only [go_sem, hNE, hA]; first | done | exact rfl)); (focus (intro hG hG2; simp (maxDischargeDepth := 8) (disch := first | (with_reducible apply Om.mk; first | (simp (maxDischargeDepth := 8) only [go_sem, hNE, hA]; done) | (clear hP hC hNE hA; first | omega | (simp only [List.length_append, List.length_take, List.length_drop, List.length_map, List.length_replicate]; omega))) | (simp (maxDischargeDepth := 8) only [go_sem, hNE, hA]; done) | fail) only [go_sem, hNE, hA, hG, hG2]; first | done | exact rfl)); (focus (simp (maxDischargeDepth := 8) (disch := first | (with_reducible apply Om.mk; first | (simp (maxDischargeDepth := 8) only [go_sem, hNE, hA]; done) | (clear hP hC hNE hA; first | omega | (simp only [List.length_append, List.length_take, List.length_drop, List.length_map, List.length_replicate]; omega))) | (simp (maxDischargeDepth := 8) only [go_sem, hNE, hA]; done) | fail) only [go_sem, hNE, hA]; done)); (intro hG hG2; first | exact h11 | exact h12 | exact h23 | exact h14 | exact h29 | exact h30 | exact h15 | exact h31 | exact h19)) | refine ce_gno ?_ | refine ce_gskip ?_ | refine ce_gno2 ?_) | ((with_reducible apply gt_g); first | refine ce_gval ?_ | refine ce_gno ?_ | refine ce_gskip ?_ | refine ce_gval2 ?_ | refine ce_gno2 ?_) | ((with_reducible apply gd_call); first | refine de_callS ?_ | refine de_callO ?_) | ((with_reducible apply gd_alloc); (refine de_alloc ?_; intro la ha hn1; replace hNE := And.intro hNE hn1)) | ((with_reducible apply gd_store); first | refine de_store ?_ | refine de_storeZ ?_) | ((with_reducible apply gt_cond); first | refine c_cond ?_ ?_ | refine c_condB ?_ ?_) | ((with_reducible apply gt_any); refine ce_val ?_) | ((with_reducible apply gd_any); refine de_val ?_) | ((with_reducible apply gt_drw); first | refine ce_drwA ?_ | refine ce_drwE ?_ | refine ce_drwK ?_ | refine ce_drwZ ?_) | with_reducible first | refine k_seq ?_ | refine t_seq ?_ | refine t_reg ?_ | refine t_nil ?_ | refine t_skip ?_ | refine t_ret ?_ | refine t_exit ?_ | refine k_seq_exit ?_ | refine k_seq_ret ?_ | refine k_blk_exit ?_ | refine k_blk_other (by decide) ?_ | refine k_blk_ret ?_ | refine k_blk ?_ | refine t_block ?_ | refine m_nil ?_ | (with_reducible intro hc; with_reducible exact Bool.noConfusion hc) | (with_reducible intro hc la ha hn1; replace hNE := And.intro hNE hn1) | (with_reducible intro hc; replace hC := And.intro hC hc))
    all_goals ((first | refine cpendE rs6 ?_ | refine cpendNE rs6 ?_); (exact fin_eq))
end Go.Proofs.Ythdgdngdfijfhaa
namespace Go.Proofs.Ythdgdngdfijfhaa
open Go.RowKit Go.Proofs
set_option linter.unusedVariables false
set_option linter.unusedSimpArgs false
attribute [local irreducible] PPure CallN Tops TopsDm T
set_option maxHeartbeats 8000000 in
theorem law3 (u : Un) : PPure Try.prog 3 [encU u] (.bool true) := by
  have h11 := p11
  have h12 := p12 u
  by_cases hf : fewB u = false
  · rw [hf] at h12
    simp only [encU] at h12 ⊢
    (refine ppure_of_T ok3 (by simp only [List.length_cons, List.length_nil]; decide) ?_; refine t_seq ?_)
    have hNE := True.intro; have hC := True.intro; have hA := True.intro; have hP := True.intro
    (replace hA := True.intro; replace hP := And.intro h11 (And.intro h12 (True.intro)); repeat' first | ((with_reducible apply gt_call); first | refine ce_callS ?_ | refine ce_callO ?_) | ((with_reducible apply gt_alloc); (refine ce_alloc ?_; intro la ha hn1; replace hNE := And.intro hNE hn1)) | ((with_reducible apply gt_box); (refine ce_boxL ?_; intro la ha hn1; replace hNE := And.intro hNE hn1)) | ((with_reducible apply gt_store); refine ce_store ?_) | ((with_reducible apply gt_gcall); first | refine ce_gcallS ?_ | refine ce_gcallO ?_ | ((with_reducible apply te_gcall2); exact rfl; (focus (simp (maxDischargeDepth := 8) (disch := first | (with_reducible apply Om.mk; first | (simp (maxDischargeDepth := 8) only [go_sem, hNE, hA]; done) | (clear hP hC hNE hA; first | omega | (simp only [List.length_append, List.length_take, List.length_drop, List.length_map, List.length_replicate]; omega))) | (simp (maxDischargeDepth := 8) only [go_sem, hNE, hA]; done) | fail) only [go_sem, hNE, hA]; first | done | exact rfl)); (focus (simp (maxDischargeDepth := 8) (disch := first | (with_reducible apply Om.mk; first | (simp (maxDischargeDepth := 8) only [go_sem, hNE, hA]; done) | (clear hP hC hNE hA; first | omega | (simp only [List.length_append, List.length_take, List.length_drop, List.length_map, List.length_replicate]; omega))) | (simp (maxDischargeDepth := 8) only [go_sem, hNE, hA]; done) | fail) only [go_sem, hNE, hA]; first | done | exact rfl)); (focus (intro hG hG2; simp (maxDischargeDepth := 8) (disch := first | (with_reducible apply Om.mk; first | (simp (maxDischargeDepth := 8) only [go_sem, hNE, hA]; done) | (clear hP hC hNE hA; first | omega | (simp only [List.length_append, List.length_take, List.length_drop, List.length_map, List.length_replicate]; omega))) | (simp (maxDischargeDepth := 8) only [go_sem, hNE, hA]; done) | fail) only [go_sem, hNE, hA, hG, hG2]; first | done | exact rfl)); (focus (simp (maxDischargeDepth := 8) (disch := first | (with_reducible apply Om.mk; first | (simp (maxDischargeDepth := 8) only [go_sem, hNE, hA]; done) | (clear hP hC hNE hA; first | omega | (simp only [List.length_append, List.length_take, List.length_drop, List.length_map, List.length_replicate]; omega))) | (simp (maxDischargeDepth := 8) only [go_sem, hNE, hA]; done) | fail) only [go_sem, hNE, hA]; done)); (intro hG hG2; first | exact h11 | exact h12)) | refine ce_gno ?_ | refine ce_gskip ?_ | refine ce_gno2 ?_) | ((with_reducible apply gt_g); first | refine ce_gval ?_ | refine ce_gno ?_ | refine ce_gskip ?_ | refine ce_gval2 ?_ | refine ce_gno2 ?_) | ((with_reducible apply gt_cond); first | refine c_cond ?_ ?_ | refine c_condB ?_ ?_) | ((with_reducible apply gt_any); refine ce_val ?_) | with_reducible first | refine k_seq ?_ | refine t_seq ?_ | refine t_reg ?_ | refine t_nil ?_ | refine t_skip ?_ | refine t_ret ?_ | refine t_exit ?_ | refine k_seq_exit ?_ | refine k_seq_ret ?_ | refine k_blk_exit ?_ | refine k_blk_other (by decide) ?_ | refine k_blk_ret ?_ | refine k_blk ?_ | refine t_block ?_ | refine m_nil ?_ | (with_reducible intro hc; with_reducible exact Bool.noConfusion hc) | (with_reducible intro hc la ha hn1; replace hNE := And.intro hNE hn1) | (with_reducible intro hc; replace hC := And.intro hC hc))
    all_goals ((first | refine cpendE rs3 ?_ | refine cpendNE rs3 ?_); (exact fin_eq))
  have hf : fewB u = true := by simpa using hf
  rw [hf] at h12
  obtain ⟨b1, b2⟩ := few_len hf
  have h14 := p14 u (by omega) (by omega)
  have h13 := p13 u (by omega) (by omega)
  have h15 := p15 u (by omega) (by omega)
  have h16 := p16 u (by omega) (by omega)
  by_cases hz : unitE u = 0
  · have hv := (unitE_zero u).1 hz
    obtain ⟨n1, n2, _⟩ := Vu_len hv
    have h18 := p18 u hv
    have hb : bytesG u = (bytesF u, 0) := by rw [bytesG, if_pos hz]
    have hbl := bytesF_len hv
    have h17 := p17' u.access u.width (bytesF u) (by omega)
    have h19 := p19 { u with pos := 0 } (by show u.recs.length ≤ 1000; omega) (by show u.there.length ≤ 1000; omega)
    rw [open_bytes u hv] at h17
    rw [hb] at h13
    rw [hz] at h15 h16
    generalize bytesF u = bs at h13 h17 h18
    simp only [encU] at h12 h13 h14 h15 h16 h17 h18 h19 ⊢
    (refine ppure_of_T ok3 (by simp only [List.length_cons, List.length_nil]; decide) ?_; refine t_seq ?_)
    have hNE := True.intro; have hC := True.intro; have hA := True.intro; have hP := True.intro
    (replace hA := True.intro; replace hP := And.intro h11 (And.intro h12 (And.intro h13 (And.intro h14 (And.intro h15 (And.intro h16 (And.intro h17 (And.intro h18 (And.intro h19 (True.intro))))))))); repeat' first | ((with_reducible apply gt_call); first | refine ce_callS ?_ | refine ce_callO ?_) | ((with_reducible apply gt_alloc); (refine ce_alloc ?_; intro la ha hn1; replace hNE := And.intro hNE hn1)) | ((with_reducible apply gt_box); (refine ce_boxL ?_; intro la ha hn1; replace hNE := And.intro hNE hn1)) | ((with_reducible apply gt_store); refine ce_store ?_) | ((with_reducible apply gt_gcall); first | refine ce_gcallS ?_ | refine ce_gcallO ?_ | ((with_reducible apply te_gcall2); exact rfl; (focus (simp (maxDischargeDepth := 8) (disch := first | (with_reducible apply Om.mk; first | (simp (maxDischargeDepth := 8) only [go_sem, hNE, hA]; done) | (clear hP hC hNE hA; first | omega | (simp only [List.length_append, List.length_take, List.length_drop, List.length_map, List.length_replicate]; omega))) | (simp (maxDischargeDepth := 8) only [go_sem, hNE, hA]; done) | fail) only [go_sem, hNE, hA]; first | done | exact rfl)); (focus (simp (maxDischargeDepth := 8) (disch := first | (with_reducible apply Om.mk; first | (simp (maxDischargeDepth := 8) only [go_sem, hNE, hA]; done) | (clear hP hC hNE hA; first | omega | (simp only [List.length_append, List.length_take, List.length_drop, List.length_map, List.length_replicate]; omega))) | (simp (maxDischargeDepth := 8) only [go_sem, hNE, hA]; done) | fail) only [go_sem, hNE, hA]; first | done | exact rfl)); (focus (intro hG hG2; simp (maxDischargeDepth := 8) (disch := first | (with_reducible apply Om.mk; first | (simp (maxDischargeDepth := 8) only [go_sem, hNE, hA]; done) | (clear hP hC hNE hA; first | omega | (simp only [List.length_append, List.length_take, List.length_drop, List.length_map, List.length_replicate]; omega))) | (simp (maxDischargeDepth := 8) only [go_sem, hNE, hA]; done) | fail) only [go_sem, hNE, hA, hG, hG2]; first | done | exact rfl)); (focus (simp (maxDischargeDepth := 8) (disch := first | (with_reducible apply Om.mk; first | (simp (maxDischargeDepth := 8) only [go_sem, hNE, hA]; done) | (clear hP hC hNE hA; first | omega | (simp only [List.length_append, List.length_take, List.length_drop, List.length_map, List.length_replicate]; omega))) | (simp (maxDischargeDepth := 8) only [go_sem, hNE, hA]; done) | fail) only [go_sem, hNE, hA]; done)); (intro hG hG2; first | exact h11 | exact h12 | exact h13 | exact h14 | exact h15 | exact h16 | exact h17 | exact h18 | exact h19)) | refine ce_gno ?_ | refine ce_gskip ?_ | refine ce_gno2 ?_) | ((with_reducible apply gt_g); first | refine ce_gval ?_ | refine ce_gno ?_ | refine ce_gskip ?_ | refine ce_gval2 ?_ | refine ce_gno2 ?_) | ((with_reducible apply gt_cond); first | refine c_cond ?_ ?_ | refine c_condB ?_ ?_) | ((with_reducible apply gt_any); refine ce_val ?_) | with_reducible first | refine k_seq ?_ | refine t_seq ?_ | refine t_reg ?_ | refine t_nil ?_ | refine t_skip ?_ | refine t_ret ?_ | refine t_exit ?_ | refine k_seq_exit ?_ | refine k_seq_ret ?_ | refine k_blk_exit ?_ | refine k_blk_other (by decide) ?_ | refine k_blk_ret ?_ | refine k_blk ?_ | refine t_block ?_ | refine m_nil ?_ | (with_reducible intro hc; with_reducible exact Bool.noConfusion hc) | (with_reducible intro hc la ha hn1; replace hNE := And.intro hNE hn1) | (with_reducible intro hc; replace hC := And.intro hC hc))
    all_goals ((first | refine cpendE rs3 ?_ | refine cpendNE rs3 ?_); (exact fin_eq))
  · have hb : bytesG u = ([], unitE u) := by rw [bytesG, if_neg hz]
    rw [hb] at h13
    generalize unitE u = c at h13 h15 h16 hz
    simp only [encU] at h12 h13 h14 h15 h16 ⊢
    (refine ppure_of_T ok3 (by simp only [List.length_cons, List.length_nil]; decide) ?_; refine t_seq ?_)
    have hNE := True.intro; have hC := True.intro; have hA := True.intro; have hP := True.intro
    (replace hA := True.intro; replace hP := And.intro h11 (And.intro h12 (And.intro h13 (And.intro h14 (And.intro h15 (And.intro h16 (True.intro)))))); repeat' first | ((with_reducible apply gt_call); first | refine ce_callS ?_ | refine ce_callO ?_) | ((with_reducible apply gt_alloc); (refine ce_alloc ?_; intro la ha hn1; replace hNE := And.intro hNE hn1)) | ((with_reducible apply gt_box); (refine ce_boxL ?_; intro la ha hn1; replace hNE := And.intro hNE hn1)) | ((with_reducible apply gt_store); refine ce_store ?_) | ((with_reducible apply gt_gcall); first | refine ce_gcallS ?_ | refine ce_gcallO ?_ | ((with_reducible apply te_gcall2); exact rfl; (focus (simp (maxDischargeDepth := 8) (disch := first | (with_reducible apply Om.mk; first | (simp (maxDischargeDepth := 8) only [go_sem, hNE, hA]; done) | (clear hP hC hNE hA; first | omega | (simp only [List.length_append, List.length_take, List.length_drop, List.length_map, List.length_replicate]; omega))) | (simp (maxDischargeDepth := 8) only [go_sem, hNE, hA]; done) | fail) only [go_sem, hNE, hA]; first | done | exact rfl)); (focus (simp (maxDischargeDepth := 8) (disch := first | (with_reducible apply Om.mk; first | (simp (maxDischargeDepth := 8) only [go_sem, hNE, hA]; done) | (clear hP hC hNE hA; first | omega | (simp only [List.length_append, List.length_take, List.length_drop, List.length_map, List.length_replicate]; omega))) | (simp (maxDischargeDepth := 8) only [go_sem, hNE, hA]; done) | fail) only [go_sem, hNE, hA]; first | done | exact rfl)); (focus (intro hG hG2; simp (maxDischargeDepth := 8) (disch := first | (with_reducible apply Om.mk; first | (simp (maxDischargeDepth := 8) only [go_sem, hNE, hA]; done) | (clear hP hC hNE hA; first | omega | (simp only [List.length_append, List.length_take, List.length_drop, List.length_map, List.length_replicate]; omega))) | (simp (maxDischargeDepth := 8) only [go_sem, hNE, hA]; done) | fail) only [go_sem, hNE, hA, hG, hG2]; first | done | exact rfl)); (focus (simp (maxDischargeDepth := 8) (disch := first | (with_reducible apply Om.mk; first | (simp (maxDischargeDepth := 8) only [go_sem, hNE, hA]; done) | (clear hP hC hNE hA; first | omega | (simp only [List.length_append, List.length_take, List.length_drop, List.length_map, List.length_replicate]; omega))) | (simp (maxDischargeDepth := 8) only [go_sem, hNE, hA]; done) | fail) only [go_sem, hNE, hA]; done)); (intro hG hG2; first | exact h11 | exact h12 | exact h13 | exact h14 | exact h15 | exact h16)) | refine ce_gno ?_ | refine ce_gskip ?_ | refine ce_gno2 ?_) | ((with_reducible apply gt_g); first | refine ce_gval ?_ | refine ce_gno ?_ | refine ce_gskip ?_ | refine ce_gval2 ?_ | refine ce_gno2 ?_) | ((with_reducible apply gt_cond); first | refine c_cond ?_ ?_ | refine c_condB ?_ ?_) | ((with_reducible apply gt_any); refine ce_val ?_) | with_reducible first | refine k_seq ?_ | refine t_seq ?_ | refine t_reg ?_ | refine t_nil ?_ | refine t_skip ?_ | refine t_ret ?_ | refine t_exit ?_ | refine k_seq_exit ?_ | refine k_seq_ret ?_ | refine k_blk_exit ?_ | refine k_blk_other (by decide) ?_ | refine k_blk_ret ?_ | refine k_blk ?_ | refine t_block ?_ | refine m_nil ?_ | (with_reducible intro hc; with_reducible exact Bool.noConfusion hc) | (with_reducible intro hc la ha hn1; replace hNE := And.intro hNE hn1) | (with_reducible intro hc; replace hC := And.intro hC hc))
    all_goals ((first | refine cpendE rs3 ?_ | refine cpendNE rs3 ?_); (exact fin_eq))
end Go.Proofs.Ythdgdngdfijfhaa
namespace Go.Proofs.Ythdgdngdfijfhaa
open Go.ChangeShapes Go.WideShapes Go.ChangeAt Go.RowKit Go.Proofs
set_option linter.unusedVariables false
set_option maxRecDepth 100000 in
theorem filesUnits_lifted (os : Os) (started : os.Started) (H : Type) (enc : TypeId × Value → H) :
    ReturnsInHanded {} Try.checked os 3 .any (Rows.filesUnitsSpec.pre6 enc Try.prog Try.f3 Rows.filesUnitsRow.domain false) (Rows.filesUnitsSpec.post enc Try.prog Try.f3 false true false false) := by
  refine returnsInHanded_of_change_sized (C := Try.checked) ownKn started (by kernel_rfl) Try.func3
    (ChangeSpec.witness6 (enc := enc) (C := Try.checked) false ⟨#[], #[.agg #[.int .i64 0, .int .i64 0, .slice none 0 0, .slice none 0 0, .string ⟨#[]⟩, .bool false, .int .i64 0]], []⟩ 8 (by kernel_rfl) (by kernel_rfl) (by kernel_rfl) (by kernel_rfl)) ?_
  intro W base args ds gs before hval0 hW hcnd hsz0 _
  have hval : ∀ (j : Nat) t v, Try.f3.params[j]? = some t → args[j]? = some v → Value.okWide Try.prog W .any base t v := hval0
  have hW' := hW
  obtain ⟨p, q, hA0, hV, rfl, hfz, hnd⟩ := hW
  have hA : DataW.TrodAll enc Try.prog W 0 (fun _ => true) true Try.f3.params.toList args.toList ds p := hA0
  rw [Try.params3] at hA hval
  obtain ⟨v0, vs0, d0, ds0, p0, q0, hargs, rfl, rfl, h0, r0⟩ := trodAll_cons hA
  obtain ⟨rfl, rfl, rfl⟩ := trodAll_nil r0
  obtain rfl : args = #[v0] := by cases args; simp_all
  obtain ⟨rfl, rfl⟩ := trodVars_none hV
  obtain ⟨u, hu0, w0⟩ := arg25 (hval 0 25 v0 rfl rfl) h0
  have k0 := h0
  have lt0 : ∀ x ∈ p0, x.block < W.heap.size := by obtain ⟨m, hm⟩ := k0; exact DataW.trod_lt m _ _ _ hm
  clear hA0 hval0 hsz0
  refine ((law3 u).law (.mk1 w0)).mono fun e W' ⟨he, bel⟩ => ?_
  subst he
  exact ⟨_, rfl, _, _, _, [], _, [], hW', trodAll_mk1 (shut_bool u_4 _), (trodAll_cons_mk (Below.trod laidOut (by kernel_rfl) (of_decide_eq_true (by kernel_rfl)) k0 bel lt0) trodAll_mk0), rfl, bel.frame _, fun h => by cases h⟩
theorem filesUnits_holds : Rows.FilesUnitsSaid :=
  OpenClaim.holds_of_wide 3 Try.f3 rfl rfl rfl rfl rfl rfl rfl ⟨rfl, rfl, rfl, rfl, rfl⟩ rfl rfl rfl rfl rfl (by kernel_rfl) Try.func3 (by kernel_rfl)
    (of_decide_eq_true (by kernel_rfl)) (by unfold Func.isWrapper; first | (rw [if_pos (by decide +kernel)]; kernel_rfl) | (rw [if_neg (by decide +kernel)]; exact ⟨rfl, rfl⟩))
    (fun os started H enc _ => filesUnits_lifted os started H enc)
#print axioms filesUnits_holds
end Go.Proofs.Ythdgdngdfijfhaa
namespace Go.Proofs.Ythdgdngdfijfhaa
open Go.ChangeShapes Go.WideShapes Go.ChangeAt Go.RowKit Go.Proofs
set_option linter.unusedVariables false
set_option maxRecDepth 100000 in
theorem filesRuns_lifted (os : Os) (started : os.Started) (H : Type) (enc : TypeId × Value → H) :
    ReturnsInHanded {} Try.checked os 5 .any (Rows.filesRunsSpec.pre6 enc Try.prog Try.f5 Rows.filesRunsRow.domain false) (Rows.filesRunsSpec.post enc Try.prog Try.f5 false true false false) := by
  refine returnsInHanded_of_change_sized (C := Try.checked) ownKn started (by kernel_rfl) Try.func5
    (ChangeSpec.witness6 (enc := enc) (C := Try.checked) false ⟨#[], #[.agg #[.int .i64 0, .int .i64 0, .slice none 0 0, .slice none 0 0, .string ⟨#[]⟩, .bool false, .int .i64 0], .slice none 0 0], []⟩ 8 (by kernel_rfl) (by kernel_rfl) (by kernel_rfl) (by kernel_rfl)) ?_
  intro W base args ds gs before hval0 hW hcnd hsz0 _
  have hval : ∀ (j : Nat) t v, Try.f5.params[j]? = some t → args[j]? = some v → Value.okWide Try.prog W .any base t v := hval0
  have hW' := hW
  obtain ⟨p, q, hA0, hV, rfl, hfz, hnd⟩ := hW
  have hA : DataW.TrodAll enc Try.prog W 0 (fun _ => true) true Try.f5.params.toList args.toList ds p := hA0
  rw [Try.params5] at hA hval
  obtain ⟨v0, vs0, d0, ds0, p0, q0, hargs, rfl, rfl, h0, r0⟩ := trodAll_cons hA
  obtain ⟨v1, vs1, d1, ds1, p1, q1, rfl, rfl, rfl, h1, r1⟩ := trodAll_cons r0
  obtain ⟨rfl, rfl, rfl⟩ := trodAll_nil r1
  obtain rfl : args = #[v0, v1] := by cases args; simp_all
  obtain ⟨rfl, rfl⟩ := trodVars_none hV
  obtain ⟨u, hu0, w0⟩ := arg25 (hval 0 25 v0 rfl rfl) h0
  have k0 := h0
  have lt0 : ∀ x ∈ p0, x.block < W.heap.size := by obtain ⟨m, hm⟩ := k0; exact DataW.trod_lt m _ _ _ hm
  obtain ⟨l, w1⟩ := arg44 (hval 1 44 v1 rfl rfl) h1
  have k1 := h1
  have lt1 : ∀ x ∈ p1, x.block < W.heap.size := by obtain ⟨m, hm⟩ := k1; exact DataW.trod_lt m _ _ _ hm
  clear hA0 hval0 hsz0
  refine ((law5 u l).law (.mk2 w0 w1)).mono fun e W' ⟨he, bel⟩ => ?_
  subst he
  exact ⟨_, rfl, _, _, _, [], _, [], hW', trodAll_mk1 (shut_bool u_4 _), (trodAll_cons_mk (Below.trod laidOut (by kernel_rfl) (of_decide_eq_true (by kernel_rfl)) k0 bel lt0) (trodAll_cons_mk (Below.trod laidOut (by kernel_rfl) (of_decide_eq_true (by kernel_rfl)) k1 bel lt1) trodAll_mk0)), rfl, bel.frame _, fun h => by cases h⟩
theorem filesRuns_holds : Rows.FilesRunsSaid :=
  OpenClaim.holds_of_wide 5 Try.f5 rfl rfl rfl rfl rfl rfl rfl ⟨rfl, rfl, rfl, rfl, rfl⟩ rfl rfl rfl rfl rfl (by kernel_rfl) Try.func5 (by kernel_rfl)
    (of_decide_eq_true (by kernel_rfl)) (by unfold Func.isWrapper; first | (rw [if_pos (by decide +kernel)]; kernel_rfl) | (rw [if_neg (by decide +kernel)]; exact ⟨rfl, rfl⟩))
    (fun os started H enc _ => filesRuns_lifted os started H enc)
#print axioms filesRuns_holds
end Go.Proofs.Ythdgdngdfijfhaa
namespace Go.Proofs.Ythdgdngdfijfhaa
open Go.ChangeShapes Go.WideShapes Go.ChangeAt Go.RowKit Go.Proofs
set_option linter.unusedVariables false
set_option maxRecDepth 100000 in
theorem filesActs_lifted (os : Os) (started : os.Started) (H : Type) (enc : TypeId × Value → H) :
    ReturnsInHanded {} Try.checked os 6 .any (Rows.filesActsSpec.pre6 enc Try.prog Try.f6 Rows.filesActsRow.domain false) (Rows.filesActsSpec.post enc Try.prog Try.f6 false true false false) := by
  refine returnsInHanded_of_change_sized (C := Try.checked) ownKn started (by kernel_rfl) Try.func6
    (ChangeSpec.witness6 (enc := enc) (C := Try.checked) false ⟨#[], #[.agg #[.int .i64 0, .int .i64 0, .slice none 0 0, .slice none 0 0, .string ⟨#[]⟩, .bool false, .int .i64 0], .agg #[.int .i64 0, .int .i64 0, .string ⟨#[]⟩]], []⟩ 8 (by kernel_rfl) (by kernel_rfl) (by kernel_rfl) (by kernel_rfl)) ?_
  intro W base args ds gs before hval0 hW hcnd hsz0 _
  have hval : ∀ (j : Nat) t v, Try.f6.params[j]? = some t → args[j]? = some v → Value.okWide Try.prog W .any base t v := hval0
  have hW' := hW
  obtain ⟨p, q, hA0, hV, rfl, hfz, hnd⟩ := hW
  have hA : DataW.TrodAll enc Try.prog W 0 (fun _ => true) true Try.f6.params.toList args.toList ds p := hA0
  rw [Try.params6] at hA hval
  obtain ⟨v0, vs0, d0, ds0, p0, q0, hargs, rfl, rfl, h0, r0⟩ := trodAll_cons hA
  obtain ⟨v1, vs1, d1, ds1, p1, q1, rfl, rfl, rfl, h1, r1⟩ := trodAll_cons r0
  obtain ⟨rfl, rfl, rfl⟩ := trodAll_nil r1
  obtain rfl : args = #[v0, v1] := by cases args; simp_all
  obtain ⟨rfl, rfl⟩ := trodVars_none hV
  obtain ⟨u, hu0, w0⟩ := arg25 (hval 0 25 v0 rfl rfl) h0
  have k0 := h0
  have lt0 : ∀ x ∈ p0, x.block < W.heap.size := by obtain ⟨m, hm⟩ := k0; exact DataW.trod_lt m _ _ _ hm
  obtain ⟨a, w1⟩ := arg57 (hval 1 57 v1 rfl rfl) h1
  have k1 := h1
  have lt1 : ∀ x ∈ p1, x.block < W.heap.size := by obtain ⟨m, hm⟩ := k1; exact DataW.trod_lt m _ _ _ hm
  clear hA0 hval0 hsz0
  refine ((law6 u a).law (.mk2 w0 w1)).mono fun e W' ⟨he, bel⟩ => ?_
  subst he
  exact ⟨_, rfl, _, _, _, [], _, [], hW', trodAll_mk1 (shut_bool u_4 _), (trodAll_cons_mk (Below.trod laidOut (by kernel_rfl) (of_decide_eq_true (by kernel_rfl)) k0 bel lt0) (trodAll_cons_mk (Below.trod laidOut (by kernel_rfl) (of_decide_eq_true (by kernel_rfl)) k1 bel lt1) trodAll_mk0)), rfl, bel.frame _, fun h => by cases h⟩
theorem filesActs_holds : Rows.FilesActsSaid :=
  OpenClaim.holds_of_wide 6 Try.f6 rfl rfl rfl rfl rfl rfl rfl ⟨rfl, rfl, rfl, rfl, rfl⟩ rfl rfl rfl rfl rfl (by kernel_rfl) Try.func6 (by kernel_rfl)
    (of_decide_eq_true (by kernel_rfl)) (by unfold Func.isWrapper; first | (rw [if_pos (by decide +kernel)]; kernel_rfl) | (rw [if_neg (by decide +kernel)]; exact ⟨rfl, rfl⟩))
    (fun os started H enc _ => filesActs_lifted os started H enc)
#print axioms filesActs_holds
end Go.Proofs.Ythdgdngdfijfhaa
