/- Part 4 of the proof: what the claim needs of the framework, the contracts of functions, and the laws. No conditions. -/
import Derived.Test.YthdgdngdfijfhaaUO3
import Derived.RangeFuncNested
import Derived.RangeFuncBound
import Derived.RangeFuncCalls
import Derived.RangeFuncLeaves
import Derived.RangeFuncBox
import Derived.Shelf.Abstract
import Derived.Shelf.RegionOpen
import Derived.WalkKit
import Derived.OwnWalkIn
import Derived.TacticsInMore
import Derived.LoopNIn
import Derived.LoopIn
namespace Go.Proofs.Ythdgdngdfijfhaa
open Go.RowKit Go.Proofs
set_option linter.unusedVariables false
set_option linter.unusedSimpArgs false
attribute [local irreducible] PPure CallN Tops TopsDm T
theorem strF_lists (u : Un) (a : Ac) : (strF u a).1.recs = u.recs ∧ (strF u a).1.there = u.there := by
  unfold strF
  repeat' split
  all_goals exact ⟨rfl, rfl⟩
theorem g102 (u : Un) (a : Ac) (hn : u.there.length = u.recs.length) (hl : u.recs.length ≤ 60) (hw2 : u.width ≤ 200) (lu : Lab) (H : Hp) (kp : Lab → Prop) (v10 v20 : PV)
    (hla : H lu = some (.row true 7 [encO u v10 v20])) (hown : Own2 H lu kp v10 (u.recs.map encS) v20 (u.there.map encB)) (hkp : ∀ l, kp l → (∃ c, H l = some c) ∧ l ≠ lu) {K : PV → Hp → Prop} (hK : DirK u lu kp H K (dirF u a)) :
    CallsG Try.prog 102 [.ref lu 7 0 0, encAc a] H K := by
  by_cases h : a.kind = 0 ∨ btw a.number 1 60 = false ∨ u.width < (a.bytes.length : Int)
  · rcases own2_empty hown with ⟨h1, h2, rfl, rfl⟩ | ⟨l1, l2, rfl, rfl, h3, h4, h5⟩
    · exact g102e u a h1 h2 h lu H kp hla (fun l hl => (hkp l hl).1) hK
    · exact g102a u a hn hl h lu l1 l2 H kp hla h3 h4 h5 (fun l hl => (hkp l hl).1) hK
  · have h1 : ¬ a.kind = 0 := fun e => h (.inl e)
    have h2 : btw a.number 1 60 = true := by
      cases e : btw a.number 1 60
      · exact absurd (.inr (.inl e)) h
      · rfl
    have h3 : (a.bytes.length : Int) ≤ u.width := by
      have : ¬ u.width < (a.bytes.length : Int) := fun e => h (.inr (.inr e))
      omega
    simp [btw] at h2
    exact g102w u a (a.number - 1).toNat (by omega) (by omega) hn hl h1 h3 hw2 lu H kp v10 v20 hla hown hkp hK
attribute [local go_sem] encAn in
set_option maxHeartbeats 4000000 in
theorem p70se (u : Un) (a : Ac) (hp : u.pos = 0 ∨ u.pos = 1) (hr : u.recs = []) (ht : u.there = []) (hacc : u.access = 0)
    (hperm : permF u.access a.kind = true) (h6 : ¬ a.kind = 6) (h7 : ¬ a.kind = 7) (h3 : ¬ a.kind = 3) :
    PPure Try.prog 70 [encU u, encAc a] (.tup [encU (doneF u a).1, encAn (doneF u a).2]) := by
  have hs : doneF u a = seqF u a := by
    unfold doneF; rw [if_neg (by rw [hperm]; simp), if_neg h6, if_neg h7, if_neg h3, if_pos hacc]
  rw [hs]
  have e6 : decide (a.kind = 6) = false := by simp [h6]
  have e7 : decide (a.kind = 7) = false := by simp [h7]
  have e3 : decide (a.kind = 3) = false := by simp [h3]
  have hth := seqF_there u a
  rw [ht] at hth
  have hg := fun la H hla K hK => g101e u a hp hr ht la H hla (K := K) hK
  obtain ⟨q, hq⟩ : ∃ q, seqF u a = q := ⟨_, rfl⟩
  rw [hq] at hth
  simp only [hq] at hg
  rw [hq]
  have hc := fun H K hK => g69a u hr ht (K := K) H hK
  rw [hacc] at hperm
  simp only [encU, ht, hr, List.map_nil, hacc, hth, encO, encAc] at hc hg ⊢
  (refine ppure_of_T ok70 (by simp only [List.length_cons, List.length_nil]; decide) ?_; refine t_seq ?_)
  (have hA := And.intro hperm (And.intro e6 (And.intro e7 (e3))); have hP := And.intro @p100' (And.intro @p99 (True.intro)); have hNE := True.intro; have hC := True.intro; repeat' first
      | with_reducible first | refine k_seq ?_ | refine t_seq ?_ | refine t_reg ?_ | refine t_nil ?_
      | refine ae_val ?_
      | refine ae_box ?_
      | (refine ae_alloc ?_; intro la ha hn1; have hNE := And.intro hNE hn1))
  rename_i l4 a4 n4 x4
  obtain ⟨l5, h5⟩ : ∃ l, l = la := ⟨la, rfl⟩
  subst h5
  (first | ((with_reducible apply te_callG); (focus (simp (maxDischargeDepth := 8) only [go_sem, hNE, hperm]; first | done | exact rfl)); (focus (simp (maxDischargeDepth := 8) only [go_sem, hNE, hperm]; first | done | exact rfl))) | ((with_reducible apply te_callGB); (focus (simp (maxDischargeDepth := 8) only [go_sem, hNE, hperm]; first | done | exact rfl)); (focus (simp (maxDischargeDepth := 8) only [go_sem, hNE, hperm]; first | done | exact rfl))) | ((with_reducible apply me_callG); (focus (simp (maxDischargeDepth := 8) only [go_sem, hNE, hperm]; first | done | exact rfl)); (focus (simp (maxDischargeDepth := 8) only [go_sem, hNE, hperm]; first | done | exact rfl)); (focus (simp only [List.all_cons, List.all_nil, allocB, PV.isDef, go_sem, hNE, hperm]; first | done | exact rfl))) | ((with_reducible apply me_callGB); (focus (simp (maxDischargeDepth := 8) only [go_sem, hNE, hperm]; first | done | exact rfl)); (focus (simp (maxDischargeDepth := 8) only [go_sem, hNE, hperm]; first | done | exact rfl)); (focus (simp only [List.all_cons, List.all_nil, allocB, PV.isDef, go_sem, hNE, hperm]; first | done | exact rfl)))); refine hc _ _ ?_
  have hN0 := hNE
  (have hA := And.intro hN0 (And.intro hperm (And.intro e6 (And.intro e7 (e3)))); have hP := And.intro @p100' (And.intro @p99 (True.intro)); have hNE := True.intro; have hC := True.intro; repeat' first
      | ((with_reducible apply te_drwC); (focus (simp (maxDischargeDepth := 8) only [effFlC, List.map_cons, List.map_nil]; exact rfl)); (focus decide +kernel))
      | with_reducible first | refine k_seq ?_ | refine t_seq ?_ | refine t_reg ?_ | refine t_nil ?_ | refine t_skip ?_ | refine k_blk ?_ | refine t_block ?_
      | refine ae_val ?_
      | refine ae_callS ?_
      | refine ae_gval ?_
      | refine ae_gno ?_
      | refine be_val ?_
      | (refine ae_alloc ?_; intro la ha hn1; have hNE := And.intro hNE hn1)
      | refine ae_store ?_
      | refine a_cond ?_ ?_
      | (with_reducible intro hc; with_reducible exact Bool.noConfusion hc)
      | (with_reducible intro hc; have hC := And.intro hC hc))
  rename_i lo a6 n6 x6 z1 z2 z3 z4 z5 z6 z7 z8
  have g45 : (l4 = l5) = False := by simp (maxDischargeDepth := 8) only [go_sem, hN0, hNE]
  have g4o : (l4 = lo) = False := by simp (maxDischargeDepth := 8) only [go_sem, hN0, hNE]
  have g5o : (l5 = lo) = False := by simp (maxDischargeDepth := 8) only [go_sem, hN0, hNE]
  (first | ((with_reducible apply te_callG); (focus (simp (maxDischargeDepth := 8) only [go_sem, hNE, hN0, hperm]; first | done | exact rfl)); (focus (simp (maxDischargeDepth := 8) only [go_sem, hNE, hN0, hperm]; first | done | exact rfl))) | ((with_reducible apply te_callGB); (focus (simp (maxDischargeDepth := 8) only [go_sem, hNE, hN0, hperm]; first | done | exact rfl)); (focus (simp (maxDischargeDepth := 8) only [go_sem, hNE, hN0, hperm]; first | done | exact rfl))) | ((with_reducible apply me_callG); (focus (simp (maxDischargeDepth := 8) only [go_sem, hNE, hN0, hperm]; first | done | exact rfl)); (focus (simp (maxDischargeDepth := 8) only [go_sem, hNE, hN0, hperm]; first | done | exact rfl)); (focus (simp only [List.all_cons, List.all_nil, allocB, PV.isDef, go_sem, hNE, hN0, hperm]; first | done | exact rfl))) | ((with_reducible apply me_callGB); (focus (simp (maxDischargeDepth := 8) only [go_sem, hNE, hN0, hperm]; first | done | exact rfl)); (focus (simp (maxDischargeDepth := 8) only [go_sem, hNE, hN0, hperm]; first | done | exact rfl)); (focus (simp only [List.all_cons, List.all_nil, allocB, PV.isDef, go_sem, hNE, hN0, hperm]; first | done | exact rfl)))); refine hg lo _ (by simp (maxDischargeDepth := 8) only [go_sem, hN0, hNE]) _ ?_
  intro H2 v1 w1 w2 w3
  have f4 : H2 l4 = some (.row true 7 [zU]) := w3 l4 _ (by simp (maxDischargeDepth := 8) only [go_sem, hN0, hNE]; rfl) (of_eq_false g4o)
  have f5 : H2 l5 = some (.row true 3 [zAn]) := w3 l5 _ (by simp (maxDischargeDepth := 8) only [go_sem, hN0, hNE]; rfl) (of_eq_false g5o)
  have g54 : (l5 = l4) = False := eq_false (fun e => of_eq_false g45 e.symm)
  have go4 : (lo = l4) = False := eq_false (fun e => of_eq_false g4o e.symm)
  have go5 : (lo = l5) = False := eq_false (fun e => of_eq_false g5o e.symm)
  simp only [zU, zAn] at f4 f5
  rcases w1 with ⟨r1, rfl⟩ | ⟨lr, ys, rfl, r1⟩
  · have r2 : q.1.recs = [] := by simpa using r1
    (have hA := And.intro w2 (And.intro f4 (And.intro f5 (And.intro g45 (And.intro g54 (And.intro g4o (And.intro go4 (And.intro g5o (go5)))))))); have hP := True.intro; have hNE := True.intro; have hC := True.intro; repeat' first
        | ((with_reducible apply te_drwK); (focus (simp (maxDischargeDepth := 8) only [effFl, List.map_cons, List.map_nil]; exact rfl)); (focus decide +kernel); (focus (simp (maxDischargeDepth := 8) only [go_sem, hNE, hA]; first | done | exact rfl)))
        | with_reducible first | refine k_seq ?_ | refine t_seq ?_ | refine t_ret ?_ | refine m_nil ?_
        | refine be_val ?_
        | (refine be_alloc ?_; intro la ha hn1; have hNE := And.intro hNE hn1)
        | refine be_store ?_
        | ((with_reducible apply me_storeZ); (focus (simp (maxDischargeDepth := 8) only [go_sem, hNE, hA]; first | done | exact rfl)); (focus (simp (maxDischargeDepth := 8) only [go_sem, hNE, hA]; first | done | exact rfl)); (focus (first | exact rm_sub _ _ | (intro _ _ e; cases e; done) | (repeat (first | exact rm_sub _ _ | refine upd_sub ?_ (by simp (maxDischargeDepth := 8) only [go_sem, hNE, hA])))) ); (focus (simp (maxDischargeDepth := 8) only [go_sem, hNE, hA]; first | done | exact rfl)); (focus (simp (maxDischargeDepth := 8) only [go_sem, hNE, hA]; first | done | exact rfl)); (focus (simp (maxDischargeDepth := 8) only [go_sem, hNE, hA]; first | done | exact rfl)); (focus (simp (maxDischargeDepth := 8) only [go_sem, hNE, hA]; first | done | exact rfl)); (focus (simp (maxDischargeDepth := 8) only [go_sem, hNE, hA]; first | done | exact rfl))))
    (first | apply pend rs70 | apply pendN rs70); (focus (simp (maxDischargeDepth := 8) only [hNE, go_sem, w2, f4, f5, g45, g54, g4o, go4, g5o, go5, encAn, r2]; first | done | exact rfl)); (focus (simp (maxDischargeDepth := 8) only [hNE, go_sem, w2, f4, f5, g45, g54, g4o, go4, g5o, go5, encAn, r2]; first | done | exact rfl))
  · have r2 : List.take q.1.recs.length (q.1.recs.map encS ++ ys) = q.1.recs.map encS := by
      have := List.take_left (l₁ := q.1.recs.map encS) (l₂ := ys)
      rwa [List.length_map] at this
    have r3 : (q.1.recs.length ≤ (q.1.recs.map encS ++ ys).length) = True := eq_true (by simp)
    have ge4 : (lr = l4) = False := eq_false (fun e => by rw [e, f4] at r1; cases r1)
    have ge5 : (lr = l5) = False := eq_false (fun e => by rw [e, f5] at r1; cases r1)
    (have hA := And.intro w2 (And.intro f4 (And.intro f5 (And.intro g45 (And.intro g54 (And.intro g4o (And.intro go4 (And.intro g5o (go5)))))))); have hP := True.intro; have hNE := True.intro; have hC := True.intro; repeat' first
        | ((with_reducible apply te_drwK); (focus (simp (maxDischargeDepth := 8) only [effFl, List.map_cons, List.map_nil]; exact rfl)); (focus decide +kernel); (focus (simp (maxDischargeDepth := 8) only [go_sem, hNE, hA]; first | done | exact rfl)))
        | with_reducible first | refine k_seq ?_ | refine t_seq ?_ | refine t_ret ?_ | refine m_nil ?_
        | refine be_val ?_
        | (refine be_alloc ?_; intro la ha hn1; have hNE := And.intro hNE hn1)
        | refine be_store ?_
        | ((with_reducible apply me_storeZ); (focus (simp (maxDischargeDepth := 8) only [go_sem, hNE, hA]; first | done | exact rfl)); (focus (simp (maxDischargeDepth := 8) only [go_sem, hNE, hA]; first | done | exact rfl)); (focus (first | exact rm_sub _ _ | (intro _ _ e; cases e; done) | (repeat (first | exact rm_sub _ _ | refine upd_sub ?_ (by simp (maxDischargeDepth := 8) only [go_sem, hNE, hA])))) ); (focus (simp (maxDischargeDepth := 8) only [go_sem, hNE, hA]; first | done | exact rfl)); (focus (simp (maxDischargeDepth := 8) only [go_sem, hNE, hA]; first | done | exact rfl)); (focus (simp (maxDischargeDepth := 8) only [go_sem, hNE, hA]; first | done | exact rfl)); (focus (simp (maxDischargeDepth := 8) only [go_sem, hNE, hA]; first | done | exact rfl)); (focus (simp (maxDischargeDepth := 8) only [go_sem, hNE, hA]; first | done | exact rfl))))
    (first | apply pend rs70 | apply pendN rs70); (focus (simp (maxDischargeDepth := 8) only [hNE, go_sem, ge4, ge5, w2, f4, f5, g45, g54, g4o, go4, g5o, go5, encAn, r1, r2, r3, mapM_closed7, mapM_closed6, mapM_closed5]; first | done | exact rfl)); (focus (simp (maxDischargeDepth := 8) only [hNE, go_sem, ge4, ge5, w2, f4, f5, g45, g54, g4o, go4, g5o, go5, encAn, r1, r2, r3, mapM_closed7, mapM_closed6, mapM_closed5]; first | done | exact rfl))
attribute [local go_sem] encAn in
set_option maxHeartbeats 4000000 in
theorem p70t (u : Un) (a : Ac) (p : Nat) (hp : u.pos = (p : Int)) (hpl : p ≤ u.bytes.length) (hbl : u.bytes.length ≤ 4000) (hal : a.bytes.length ≤ 4000) (hr : u.recs = []) (ht : u.there = []) (hacc : u.access = 2)
    (hperm : permF u.access a.kind = true) (h6 : ¬ a.kind = 6) (h7 : ¬ a.kind = 7) (h3 : ¬ a.kind = 3) :
    PPure Try.prog 70 [encU u, encAc a] (.tup [encU (doneF u a).1, encAn (doneF u a).2]) := by
  have hs : doneF u a = strF u a := by
    unfold doneF; rw [if_neg (by rw [hperm]; simp), if_neg h6, if_neg h7, if_neg h3, if_neg (by rw [hacc]; decide), if_neg (by rw [hacc]; decide)]
  rw [hs]
  have e6 : decide (a.kind = 6) = false := by simp [h6]
  have e7 : decide (a.kind = 7) = false := by simp [h7]
  have e3 : decide (a.kind = 3) = false := by simp [h3]
  have hth := strF_lists u a
  rw [ht, hr] at hth
  have hg := fun la H hla K hK => g103 u a p hp hpl hbl hal la H hla (K := K) hK
  obtain ⟨q, hq⟩ : ∃ q, strF u a = q := ⟨_, rfl⟩
  rw [hq] at hth
  simp only [hq] at hg
  rw [hq]
  have hc := fun H K hK => g69a u hr ht (K := K) H hK
  rw [hacc] at hperm
  simp only [encU, ht, hr, List.map_nil, hacc, hth.1, hth.2, encO, encAc] at hc hg ⊢
  (refine ppure_of_T ok70 (by simp only [List.length_cons, List.length_nil]; decide) ?_; refine t_seq ?_)
  (have hA := And.intro hperm (And.intro e6 (And.intro e7 (e3))); have hP := And.intro @p100' (And.intro @p99 (True.intro)); have hNE := True.intro; have hC := True.intro; repeat' first
      | with_reducible first | refine k_seq ?_ | refine t_seq ?_ | refine t_reg ?_ | refine t_nil ?_
      | refine ae_val ?_
      | refine ae_box ?_
      | (refine ae_alloc ?_; intro la ha hn1; have hNE := And.intro hNE hn1))
  rename_i l4 a4 n4 x4
  obtain ⟨l5, h5⟩ : ∃ l, l = la := ⟨la, rfl⟩
  subst h5
  (first | ((with_reducible apply te_callG); (focus (simp (maxDischargeDepth := 8) only [go_sem, hNE, hperm]; first | done | exact rfl)); (focus (simp (maxDischargeDepth := 8) only [go_sem, hNE, hperm]; first | done | exact rfl))) | ((with_reducible apply te_callGB); (focus (simp (maxDischargeDepth := 8) only [go_sem, hNE, hperm]; first | done | exact rfl)); (focus (simp (maxDischargeDepth := 8) only [go_sem, hNE, hperm]; first | done | exact rfl))) | ((with_reducible apply me_callG); (focus (simp (maxDischargeDepth := 8) only [go_sem, hNE, hperm]; first | done | exact rfl)); (focus (simp (maxDischargeDepth := 8) only [go_sem, hNE, hperm]; first | done | exact rfl)); (focus (simp only [List.all_cons, List.all_nil, allocB, PV.isDef, go_sem, hNE, hperm]; first | done | exact rfl))) | ((with_reducible apply me_callGB); (focus (simp (maxDischargeDepth := 8) only [go_sem, hNE, hperm]; first | done | exact rfl)); (focus (simp (maxDischargeDepth := 8) only [go_sem, hNE, hperm]; first | done | exact rfl)); (focus (simp only [List.all_cons, List.all_nil, allocB, PV.isDef, go_sem, hNE, hperm]; first | done | exact rfl)))); refine hc _ _ ?_
  have hN0 := hNE
  (have hA := And.intro hN0 (And.intro hperm (And.intro e6 (And.intro e7 (e3)))); have hP := And.intro @p100' (And.intro @p99 (True.intro)); have hNE := True.intro; have hC := True.intro; repeat' first
      | ((with_reducible apply te_drwC); (focus (simp (maxDischargeDepth := 8) only [effFlC, List.map_cons, List.map_nil]; exact rfl)); (focus decide +kernel))
      | with_reducible first | refine k_seq ?_ | refine t_seq ?_ | refine t_reg ?_ | refine t_nil ?_ | refine t_skip ?_ | refine k_blk ?_ | refine t_block ?_
      | refine ae_val ?_
      | refine ae_callS ?_
      | refine ae_gval ?_
      | refine ae_gno ?_
      | refine be_val ?_
      | (refine ae_alloc ?_; intro la ha hn1; have hNE := And.intro hNE hn1)
      | refine ae_store ?_
      | refine a_cond ?_ ?_
      | (with_reducible intro hc; with_reducible exact Bool.noConfusion hc)
      | (with_reducible intro hc; have hC := And.intro hC hc))
  rename_i lo a6 n6 x6 z1 z2 z3 z4 z5 z6 z7 z8
  have g45 : (l4 = l5) = False := by simp (maxDischargeDepth := 8) only [go_sem, hN0, hNE]
  have g4o : (l4 = lo) = False := by simp (maxDischargeDepth := 8) only [go_sem, hN0, hNE]
  have g5o : (l5 = lo) = False := by simp (maxDischargeDepth := 8) only [go_sem, hN0, hNE]
  (first | ((with_reducible apply te_callG); (focus (simp (maxDischargeDepth := 8) only [go_sem, hNE, hN0, hperm]; first | done | exact rfl)); (focus (simp (maxDischargeDepth := 8) only [go_sem, hNE, hN0, hperm]; first | done | exact rfl))) | ((with_reducible apply te_callGB); (focus (simp (maxDischargeDepth := 8) only [go_sem, hNE, hN0, hperm]; first | done | exact rfl)); (focus (simp (maxDischargeDepth := 8) only [go_sem, hNE, hN0, hperm]; first | done | exact rfl))) | ((with_reducible apply me_callG); (focus (simp (maxDischargeDepth := 8) only [go_sem, hNE, hN0, hperm]; first | done | exact rfl)); (focus (simp (maxDischargeDepth := 8) only [go_sem, hNE, hN0, hperm]; first | done | exact rfl)); (focus (simp only [List.all_cons, List.all_nil, allocB, PV.isDef, go_sem, hNE, hN0, hperm]; first | done | exact rfl))) | ((with_reducible apply me_callGB); (focus (simp (maxDischargeDepth := 8) only [go_sem, hNE, hN0, hperm]; first | done | exact rfl)); (focus (simp (maxDischargeDepth := 8) only [go_sem, hNE, hN0, hperm]; first | done | exact rfl)); (focus (simp only [List.all_cons, List.all_nil, allocB, PV.isDef, go_sem, hNE, hN0, hperm]; first | done | exact rfl)))); refine hg lo _ (by simp (maxDischargeDepth := 8) only [go_sem, hN0, hNE]) _ ?_
  intro H2 w2 w3
  have f4 : H2 l4 = some (.row true 7 [zU]) := w3 l4 _ (by simp (maxDischargeDepth := 8) only [go_sem, hN0, hNE]; rfl) (of_eq_false g4o)
  have f5 : H2 l5 = some (.row true 3 [zAn]) := w3 l5 _ (by simp (maxDischargeDepth := 8) only [go_sem, hN0, hNE]; rfl) (of_eq_false g5o)
  have g54 : (l5 = l4) = False := eq_false (fun e => of_eq_false g45 e.symm)
  have go4 : (lo = l4) = False := eq_false (fun e => of_eq_false g4o e.symm)
  have go5 : (lo = l5) = False := eq_false (fun e => of_eq_false g5o e.symm)
  simp only [zU, zAn] at f4 f5
  (have hA := And.intro w2 (And.intro f4 (And.intro f5 (And.intro g45 (And.intro g54 (And.intro g4o (And.intro go4 (And.intro g5o (go5)))))))); have hP := True.intro; have hNE := True.intro; have hC := True.intro; repeat' first
      | ((with_reducible apply te_drwK); (focus (simp (maxDischargeDepth := 8) only [effFl, List.map_cons, List.map_nil]; exact rfl)); (focus decide +kernel); (focus (simp (maxDischargeDepth := 8) only [go_sem, hNE, hA]; first | done | exact rfl)))
      | with_reducible first | refine k_seq ?_ | refine t_seq ?_ | refine t_ret ?_ | refine m_nil ?_
      | refine be_val ?_
      | (refine be_alloc ?_; intro la ha hn1; have hNE := And.intro hNE hn1)
      | refine be_store ?_
      | ((with_reducible apply me_storeZ); (focus (simp (maxDischargeDepth := 8) only [go_sem, hNE, hA]; first | done | exact rfl)); (focus (simp (maxDischargeDepth := 8) only [go_sem, hNE, hA]; first | done | exact rfl)); (focus (first | exact rm_sub _ _ | (intro _ _ e; cases e; done) | (repeat (first | exact rm_sub _ _ | refine upd_sub ?_ (by simp (maxDischargeDepth := 8) only [go_sem, hNE, hA])))) ); (focus (simp (maxDischargeDepth := 8) only [go_sem, hNE, hA]; first | done | exact rfl)); (focus (simp (maxDischargeDepth := 8) only [go_sem, hNE, hA]; first | done | exact rfl)); (focus (simp (maxDischargeDepth := 8) only [go_sem, hNE, hA]; first | done | exact rfl)); (focus (simp (maxDischargeDepth := 8) only [go_sem, hNE, hA]; first | done | exact rfl)); (focus (simp (maxDischargeDepth := 8) only [go_sem, hNE, hA]; first | done | exact rfl))))
  (first | apply pend rs70 | apply pendN rs70); (focus (simp (maxDischargeDepth := 8) only [hNE, go_sem, w2, f4, f5, g45, g54, g4o, go4, g5o, go5, encAn]; first | done | exact rfl)); (focus (simp (maxDischargeDepth := 8) only [hNE, go_sem, w2, f4, f5, g45, g54, g4o, go4, g5o, go5, encAn]; first | done | exact rfl))
end Go.Proofs.Ythdgdngdfijfhaa
namespace Go.Proofs.Ythdgdngdfijfhaa
open Go.RowKit Go.Proofs
set_option linter.unusedVariables false
set_option linter.unusedSimpArgs false
attribute [local irreducible] PPure CallN Tops TopsDm T
theorem two_labs {p : Lab → Prop} {a b : Lab} (ha : p a) (hb : p b) : ∀ l, (l = a ∨ l = b) → p l := by
  rintro l (rfl | rfl)
  · exact ha
  · exact hb
attribute [local go_sem] encAn in
set_option maxHeartbeats 4000000 in
theorem p70de (u : Un) (a : Ac) (hn : u.there.length = u.recs.length) (hl : u.recs.length ≤ 60) (hw2 : u.width ≤ 200) (hr : u.recs = []) (hacc : u.access = 1)
    (hperm : permF u.access a.kind = true) (h6 : ¬ a.kind = 6) (h7 : ¬ a.kind = 7) (h3 : ¬ a.kind = 3) :
    PPure Try.prog 70 [encU u, encAc a] (.tup [encU (doneF u a).1, encAn (doneF u a).2]) := by
  have hs : doneF u a = dirF u a := by
    unfold doneF; rw [if_neg (by rw [hperm]; simp), if_neg h6, if_neg h7, if_neg h3, if_neg (by rw [hacc]; decide), if_pos hacc]
  rw [hs]
  have e6 : decide (a.kind = 6) = false := by simp [h6]
  have e7 : decide (a.kind = 7) = false := by simp [h7]
  have e3 : decide (a.kind = 3) = false := by simp [h3]
  have hg := fun la H kp v10 v20 hla hown hkp K (hK : DirK u la kp H K (dirF u a)) => g102 u a hn hl hw2 la H kp v10 v20 hla hown hkp (K := K) hK
  unfold DirK at hg
  obtain ⟨q, hq⟩ : ∃ q, dirF u a = q := ⟨_, rfl⟩
  simp only [hq] at hg
  rw [hq]
  have ht : u.there = [] := List.eq_nil_of_length_eq_zero (by rw [hn, hr]; rfl)
  have hc := fun H K hK => g69a u hr ht (K := K) H hK
  rw [hacc] at hperm
  simp only [encU, ht, hr, List.map_nil, hacc, encO, encAc] at hc hg ⊢
  (refine ppure_of_T ok70 (by simp only [List.length_cons, List.length_nil]; decide) ?_; refine t_seq ?_)
  (have hA := And.intro hperm (And.intro e6 (And.intro e7 (e3))); have hP := And.intro @p100' (And.intro @p99 (True.intro)); have hNE := True.intro; have hC := True.intro; repeat' first
      | with_reducible first | refine k_seq ?_ | refine t_seq ?_ | refine t_reg ?_ | refine t_nil ?_
      | refine ae_val ?_
      | refine ae_box ?_
      | (refine ae_alloc ?_; intro la ha hn1; have hNE := And.intro hNE hn1))
  rename_i l4 a4 n4 x4
  obtain ⟨l5, h5⟩ : ∃ l, l = la := ⟨la, rfl⟩
  subst h5
  (first | ((with_reducible apply te_callG); (focus (simp (maxDischargeDepth := 8) only [go_sem, hNE, hperm]; first | done | exact rfl)); (focus (simp (maxDischargeDepth := 8) only [go_sem, hNE, hperm]; first | done | exact rfl))) | ((with_reducible apply te_callGB); (focus (simp (maxDischargeDepth := 8) only [go_sem, hNE, hperm]; first | done | exact rfl)); (focus (simp (maxDischargeDepth := 8) only [go_sem, hNE, hperm]; first | done | exact rfl))) | ((with_reducible apply me_callG); (focus (simp (maxDischargeDepth := 8) only [go_sem, hNE, hperm]; first | done | exact rfl)); (focus (simp (maxDischargeDepth := 8) only [go_sem, hNE, hperm]; first | done | exact rfl)); (focus (simp only [List.all_cons, List.all_nil, allocB, PV.isDef, go_sem, hNE, hperm]; first | done | exact rfl))) | ((with_reducible apply me_callGB); (focus (simp (maxDischargeDepth := 8) only [go_sem, hNE, hperm]; first | done | exact rfl)); (focus (simp (maxDischargeDepth := 8) only [go_sem, hNE, hperm]; first | done | exact rfl)); (focus (simp only [List.all_cons, List.all_nil, allocB, PV.isDef, go_sem, hNE, hperm]; first | done | exact rfl)))); refine hc _ _ ?_
  have hN0 := hNE
  (have hA := And.intro hN0 (And.intro hperm (And.intro e6 (And.intro e7 (e3)))); have hP := And.intro @p100' (And.intro @p99 (True.intro)); have hNE := True.intro; have hC := True.intro; repeat' first
      | ((with_reducible apply te_drwC); (focus (simp (maxDischargeDepth := 8) only [effFlC, List.map_cons, List.map_nil]; exact rfl)); (focus decide +kernel))
      | with_reducible first | refine k_seq ?_ | refine t_seq ?_ | refine t_reg ?_ | refine t_nil ?_ | refine t_skip ?_ | refine k_blk ?_ | refine t_block ?_
      | refine ae_val ?_
      | refine ae_callS ?_
      | refine ae_gval ?_
      | refine ae_gno ?_
      | refine be_val ?_
      | (refine ae_alloc ?_; intro la ha hn1; have hNE := And.intro hNE hn1)
      | refine ae_store ?_
      | refine a_cond ?_ ?_
      | (with_reducible intro hc; with_reducible exact Bool.noConfusion hc)
      | (with_reducible intro hc; have hC := And.intro hC hc))
  rename_i lo a6 n6 x6 z1 z2 z3 z4 z5 z6 z7 z8
  have g45 : (l4 = l5) = False := by simp (maxDischargeDepth := 8) only [go_sem, hN0, hNE]
  have g4o : (l4 = lo) = False := by simp (maxDischargeDepth := 8) only [go_sem, hN0, hNE]
  have g5o : (l5 = lo) = False := by simp (maxDischargeDepth := 8) only [go_sem, hN0, hNE]
  (first | ((with_reducible apply te_callG); (focus (simp (maxDischargeDepth := 8) only [go_sem, hNE, hN0, hperm]; first | done | exact rfl)); (focus (simp (maxDischargeDepth := 8) only [go_sem, hNE, hN0, hperm]; first | done | exact rfl))) | ((with_reducible apply te_callGB); (focus (simp (maxDischargeDepth := 8) only [go_sem, hNE, hN0, hperm]; first | done | exact rfl)); (focus (simp (maxDischargeDepth := 8) only [go_sem, hNE, hN0, hperm]; first | done | exact rfl))) | ((with_reducible apply me_callG); (focus (simp (maxDischargeDepth := 8) only [go_sem, hNE, hN0, hperm]; first | done | exact rfl)); (focus (simp (maxDischargeDepth := 8) only [go_sem, hNE, hN0, hperm]; first | done | exact rfl)); (focus (simp only [List.all_cons, List.all_nil, allocB, PV.isDef, go_sem, hNE, hN0, hperm]; first | done | exact rfl))) | ((with_reducible apply me_callGB); (focus (simp (maxDischargeDepth := 8) only [go_sem, hNE, hN0, hperm]; first | done | exact rfl)); (focus (simp (maxDischargeDepth := 8) only [go_sem, hNE, hN0, hperm]; first | done | exact rfl)); (focus (simp only [List.all_cons, List.all_nil, allocB, PV.isDef, go_sem, hNE, hN0, hperm]; first | done | exact rfl)))); refine hg lo _ (fun l => l = l4 ∨ l = l5) (.list .full []) (.list .full []) (by simp (maxDischargeDepth := 8) only [go_sem, hN0, hNE]) (.inl ⟨rfl, rfl, rfl, rfl⟩) (two_labs ⟨Option.isSome_iff_exists.1 (by simp (maxDischargeDepth := 8) only [go_sem, hN0, hNE]), of_eq_false g4o⟩ ⟨Option.isSome_iff_exists.1 (by simp (maxDischargeDepth := 8) only [go_sem, hN0, hNE]), of_eq_false g5o⟩) _ ?_
  intro H2 v1 v2 w1 w2 w3
  have f4 : H2 l4 = some (.row true 7 [zU]) := (w3 l4 (.inl rfl)).trans (by simp (maxDischargeDepth := 8) only [go_sem, hN0, hNE]; rfl)
  have f5 : H2 l5 = some (.row true 3 [zAn]) := (w3 l5 (.inr rfl)).trans (by simp (maxDischargeDepth := 8) only [go_sem, hN0, hNE]; rfl)
  have g54 : (l5 = l4) = False := eq_false (fun e => of_eq_false g45 e.symm)
  have go4 : (lo = l4) = False := eq_false (fun e => of_eq_false g4o e.symm)
  have go5 : (lo = l5) = False := eq_false (fun e => of_eq_false g5o e.symm)
  simp only [zU, zAn] at f4 f5
  rcases w1 with ⟨r1, r2, rfl, rfl⟩ | ⟨k1, k2, rfl, rfl, r1, r2, r3, r4, r5, r6⟩
  · have r1 : q.1.recs = [] := by simpa using r1
    have r2 : q.1.there = [] := by simpa using r2
    (have hA := And.intro w2 (And.intro f4 (And.intro f5 (And.intro g45 (And.intro g54 (And.intro g4o (And.intro go4 (And.intro g5o (go5)))))))); have hP := True.intro; have hNE := True.intro; have hC := True.intro; repeat' first
        | ((with_reducible apply te_drwK); (focus (simp (maxDischargeDepth := 8) only [effFl, List.map_cons, List.map_nil]; exact rfl)); (focus decide +kernel); (focus (simp (maxDischargeDepth := 8) only [go_sem, hNE, hA]; first | done | exact rfl)))
        | with_reducible first | refine k_seq ?_ | refine t_seq ?_ | refine t_ret ?_ | refine m_nil ?_
        | refine be_val ?_
        | (refine be_alloc ?_; intro la ha hn1; have hNE := And.intro hNE hn1)
        | refine be_store ?_
        | ((with_reducible apply me_storeZ); (focus (simp (maxDischargeDepth := 8) only [go_sem, hNE, hA]; first | done | exact rfl)); (focus (simp (maxDischargeDepth := 8) only [go_sem, hNE, hA]; first | done | exact rfl)); (focus (first | exact rm_sub _ _ | (intro _ _ e; cases e; done) | (repeat (first | exact rm_sub _ _ | refine upd_sub ?_ (by simp (maxDischargeDepth := 8) only [go_sem, hNE, hA])))) ); (focus (simp (maxDischargeDepth := 8) only [go_sem, hNE, hA]; first | done | exact rfl)); (focus (simp (maxDischargeDepth := 8) only [go_sem, hNE, hA]; first | done | exact rfl)); (focus (simp (maxDischargeDepth := 8) only [go_sem, hNE, hA]; first | done | exact rfl)); (focus (simp (maxDischargeDepth := 8) only [go_sem, hNE, hA]; first | done | exact rfl)); (focus (simp (maxDischargeDepth := 8) only [go_sem, hNE, hA]; first | done | exact rfl))))
    (first | apply pend rs70 | apply pendN rs70); (focus (simp (maxDischargeDepth := 8) only [hNE, go_sem, w2, f4, f5, g45, g54, g4o, go4, g5o, go5, encAn, r1, r2]; first | done | exact rfl)); (focus (simp (maxDischargeDepth := 8) only [hNE, go_sem, w2, f4, f5, g45, g54, g4o, go4, g5o, go5, encAn, r1, r2]; first | done | exact rfl))
  · have t1 : List.take q.1.recs.length (q.1.recs.map encS) = q.1.recs.map encS := List.take_of_length_le (by simp)
    have t2 : List.take q.1.there.length (q.1.there.map encB) = q.1.there.map encB := List.take_of_length_le (by simp)
    have y4 : (k1 = l4) = False := eq_false (fun e => by rw [e, f4] at r1; cases r1)
    have y5 : (k1 = l5) = False := eq_false (fun e => by rw [e, f5] at r1; cases r1)
    have y6 : (k2 = l4) = False := eq_false (fun e => by rw [e, f4] at r2; cases r2)
    have y7 : (k2 = l5) = False := eq_false (fun e => by rw [e, f5] at r2; cases r2)
    (have hA := And.intro w2 (And.intro f4 (And.intro f5 (And.intro g45 (And.intro g54 (And.intro g4o (And.intro go4 (And.intro g5o (go5)))))))); have hP := True.intro; have hNE := True.intro; have hC := True.intro; repeat' first
        | ((with_reducible apply te_drwK); (focus (simp (maxDischargeDepth := 8) only [effFl, List.map_cons, List.map_nil]; exact rfl)); (focus decide +kernel); (focus (simp (maxDischargeDepth := 8) only [go_sem, hNE, hA]; first | done | exact rfl)))
        | with_reducible first | refine k_seq ?_ | refine t_seq ?_ | refine t_ret ?_ | refine m_nil ?_
        | refine be_val ?_
        | (refine be_alloc ?_; intro la ha hn1; have hNE := And.intro hNE hn1)
        | refine be_store ?_
        | ((with_reducible apply me_storeZ); (focus (simp (maxDischargeDepth := 8) only [go_sem, hNE, hA]; first | done | exact rfl)); (focus (simp (maxDischargeDepth := 8) only [go_sem, hNE, hA]; first | done | exact rfl)); (focus (first | exact rm_sub _ _ | (intro _ _ e; cases e; done) | (repeat (first | exact rm_sub _ _ | refine upd_sub ?_ (by simp (maxDischargeDepth := 8) only [go_sem, hNE, hA])))) ); (focus (simp (maxDischargeDepth := 8) only [go_sem, hNE, hA]; first | done | exact rfl)); (focus (simp (maxDischargeDepth := 8) only [go_sem, hNE, hA]; first | done | exact rfl)); (focus (simp (maxDischargeDepth := 8) only [go_sem, hNE, hA]; first | done | exact rfl)); (focus (simp (maxDischargeDepth := 8) only [go_sem, hNE, hA]; first | done | exact rfl)); (focus (simp (maxDischargeDepth := 8) only [go_sem, hNE, hA]; first | done | exact rfl))))
    (first | apply pend rs70 | apply pendN rs70); (focus (simp (maxDischargeDepth := 8) only [hNE, go_sem, y4, y5, y6, y7, w2, f4, f5, g45, g54, g4o, go4, g5o, go5, encAn, r1, r2, t1, t2, mapM_closed7, mapM_closed6, mapM_closed5]; first | done | exact rfl)); (focus (simp (maxDischargeDepth := 8) only [hNE, go_sem, y4, y5, y6, y7, w2, f4, f5, g45, g54, g4o, go4, g5o, go5, encAn, r1, r2, t1, t2, mapM_closed7, mapM_closed6, mapM_closed5]; first | done | exact rfl))
attribute [local go_sem] encAn in
set_option maxHeartbeats 4000000 in
theorem p70dr (u : Un) (a : Ac) (hn : u.there.length = u.recs.length) (hl : u.recs.length ≤ 60) (hw2 : u.width ≤ 200) (hr : u.recs ≠ []) (hacc : u.access = 1)
    (hperm : permF u.access a.kind = true) (h6 : ¬ a.kind = 6) (h7 : ¬ a.kind = 7) (h3 : ¬ a.kind = 3) :
    PPure Try.prog 70 [encU u, encAc a] (.tup [encU (doneF u a).1, encAn (doneF u a).2]) := by
  have hs : doneF u a = dirF u a := by
    unfold doneF; rw [if_neg (by rw [hperm]; simp), if_neg h6, if_neg h7, if_neg h3, if_neg (by rw [hacc]; decide), if_pos hacc]
  rw [hs]
  have e6 : decide (a.kind = 6) = false := by simp [h6]
  have e7 : decide (a.kind = 7) = false := by simp [h7]
  have e3 : decide (a.kind = 3) = false := by simp [h3]
  have hg := fun la H kp v10 v20 hla hown hkp K (hK : DirK u la kp H K (dirF u a)) => g102 u a hn hl hw2 la H kp v10 v20 hla hown hkp (K := K) hK
  unfold DirK at hg
  obtain ⟨q, hq⟩ : ∃ q, dirF u a = q := ⟨_, rfl⟩
  simp only [hq] at hg
  rw [hq]
  have ht : u.there ≠ [] := fun e => hr (List.eq_nil_of_length_eq_zero (by rw [← hn, e]; rfl))
  have hc := fun H K hK => g69c u hr ht (by omega) (by omega) (K := K) H hK
  rw [hacc] at hperm
  simp only [encU, hacc, encO, encAc] at hc hg ⊢
  (refine ppure_of_T ok70 (by simp only [List.length_cons, List.length_nil]; decide) ?_; refine t_seq ?_)
  (have hA := And.intro hperm (And.intro e6 (And.intro e7 (e3))); have hP := And.intro @p100' (And.intro @p99 (True.intro)); have hNE := True.intro; have hC := True.intro; repeat' first
      | with_reducible first | refine k_seq ?_ | refine t_seq ?_ | refine t_reg ?_ | refine t_nil ?_
      | refine ae_val ?_
      | refine ae_box ?_
      | (refine ae_alloc ?_; intro la ha hn1; have hNE := And.intro hNE hn1))
  rename_i l4 a4 n4 x4
  obtain ⟨l5, h5⟩ : ∃ l, l = la := ⟨la, rfl⟩
  subst h5
  (first | ((with_reducible apply te_callG); (focus (simp (maxDischargeDepth := 8) only [go_sem, hNE, hperm]; first | done | exact rfl)); (focus (simp (maxDischargeDepth := 8) only [go_sem, hNE, hperm]; first | done | exact rfl))) | ((with_reducible apply te_callGB); (focus (simp (maxDischargeDepth := 8) only [go_sem, hNE, hperm]; first | done | exact rfl)); (focus (simp (maxDischargeDepth := 8) only [go_sem, hNE, hperm]; first | done | exact rfl))) | ((with_reducible apply me_callG); (focus (simp (maxDischargeDepth := 8) only [go_sem, hNE, hperm]; first | done | exact rfl)); (focus (simp (maxDischargeDepth := 8) only [go_sem, hNE, hperm]; first | done | exact rfl)); (focus (simp only [List.all_cons, List.all_nil, allocB, PV.isDef, go_sem, hNE, hperm]; first | done | exact rfl))) | ((with_reducible apply me_callGB); (focus (simp (maxDischargeDepth := 8) only [go_sem, hNE, hperm]; first | done | exact rfl)); (focus (simp (maxDischargeDepth := 8) only [go_sem, hNE, hperm]; first | done | exact rfl)); (focus (simp only [List.all_cons, List.all_nil, allocB, PV.isDef, go_sem, hNE, hperm]; first | done | exact rfl)))); refine hc _ _ ?_
  intro l1 l2 b1 b2 b3
  have b4 := fresh_ne b1
  have b5 := fresh_ne b2
  have b6 : (l2 = l1) = False := eq_false b3
  have b7 : (l1 = l2) = False := eq_false (Ne.symm b3)
  have hN0 := And.intro hNE (And.intro b4 (And.intro b5 (And.intro b6 b7)))
  (have hA := And.intro hN0 (And.intro hperm (And.intro e6 (And.intro e7 (e3)))); have hP := And.intro @p100' (And.intro @p99 (True.intro)); have hNE := True.intro; have hC := True.intro; repeat' first
      | ((with_reducible apply te_drwC); (focus (simp (maxDischargeDepth := 8) only [effFlC, List.map_cons, List.map_nil]; exact rfl)); (focus decide +kernel))
      | with_reducible first | refine k_seq ?_ | refine t_seq ?_ | refine t_reg ?_ | refine t_nil ?_ | refine t_skip ?_ | refine k_blk ?_ | refine t_block ?_
      | refine ae_val ?_
      | refine ae_callS ?_
      | refine ae_gval ?_
      | refine ae_gno ?_
      | refine be_val ?_
      | (refine ae_alloc ?_; intro la ha hn1; have hNE := And.intro hNE hn1)
      | refine ae_store ?_
      | refine a_cond ?_ ?_
      | (with_reducible intro hc; with_reducible exact Bool.noConfusion hc)
      | (with_reducible intro hc; have hC := And.intro hC hc))
  rename_i lo a6 n6 x6 z1 z2 z3 z4 z5 z6 z7 z8
  have g45 : (l4 = l5) = False := by simp (maxDischargeDepth := 8) only [go_sem, hN0, hNE]
  have g4o : (l4 = lo) = False := by simp (maxDischargeDepth := 8) only [go_sem, hN0, hNE]
  have g5o : (l5 = lo) = False := by simp (maxDischargeDepth := 8) only [go_sem, hN0, hNE]
  have q1 : (l1 = lo) = False := by simp (maxDischargeDepth := 8) only [go_sem, hN0, hNE]
  have q2 : (l2 = lo) = False := by simp (maxDischargeDepth := 8) only [go_sem, hN0, hNE]
  have q3 : (l4 = l1) = False := by simp (maxDischargeDepth := 8) only [go_sem, hN0, hNE]
  have q4 : (l4 = l2) = False := by simp (maxDischargeDepth := 8) only [go_sem, hN0, hNE]
  have q5 : (l5 = l1) = False := by simp (maxDischargeDepth := 8) only [go_sem, hN0, hNE]
  have q6 : (l5 = l2) = False := by simp (maxDischargeDepth := 8) only [go_sem, hN0, hNE]
  have hkk : ∀ l, (l = l4 ∨ l = l5) → l ≠ l1 ∧ l ≠ l2 := by
    rintro l (rfl | rfl)
    · exact ⟨of_eq_false q3, of_eq_false q4⟩
    · exact ⟨of_eq_false q5, of_eq_false q6⟩
  (first | ((with_reducible apply te_callG); (focus (simp (maxDischargeDepth := 8) only [go_sem, hNE, hN0, hperm]; first | done | exact rfl)); (focus (simp (maxDischargeDepth := 8) only [go_sem, hNE, hN0, hperm]; first | done | exact rfl))) | ((with_reducible apply te_callGB); (focus (simp (maxDischargeDepth := 8) only [go_sem, hNE, hN0, hperm]; first | done | exact rfl)); (focus (simp (maxDischargeDepth := 8) only [go_sem, hNE, hN0, hperm]; first | done | exact rfl))) | ((with_reducible apply me_callG); (focus (simp (maxDischargeDepth := 8) only [go_sem, hNE, hN0, hperm]; first | done | exact rfl)); (focus (simp (maxDischargeDepth := 8) only [go_sem, hNE, hN0, hperm]; first | done | exact rfl)); (focus (simp only [List.all_cons, List.all_nil, allocB, PV.isDef, go_sem, hNE, hN0, hperm]; first | done | exact rfl))) | ((with_reducible apply me_callGB); (focus (simp (maxDischargeDepth := 8) only [go_sem, hNE, hN0, hperm]; first | done | exact rfl)); (focus (simp (maxDischargeDepth := 8) only [go_sem, hNE, hN0, hperm]; first | done | exact rfl)); (focus (simp only [List.all_cons, List.all_nil, allocB, PV.isDef, go_sem, hNE, hN0, hperm]; first | done | exact rfl)))); refine hg lo _ (fun l => l = l4 ∨ l = l5) (.arr l1 1 0 u.recs.length) (.arr l2 1 0 u.there.length) (by simp (maxDischargeDepth := 8) only [go_sem, hN0, hNE]) (.inr ⟨l1, l2, by simp only [List.length_map], by simp only [List.length_map], by simp (maxDischargeDepth := 8) only [go_sem, hN0, hNE], by simp (maxDischargeDepth := 8) only [go_sem, hN0, hNE], Ne.symm b3, of_eq_false q1, of_eq_false q2, hkk⟩) (two_labs ⟨Option.isSome_iff_exists.1 (by simp (maxDischargeDepth := 8) only [go_sem, hN0, hNE]), of_eq_false g4o⟩ ⟨Option.isSome_iff_exists.1 (by simp (maxDischargeDepth := 8) only [go_sem, hN0, hNE]), of_eq_false g5o⟩) _ ?_
  intro H2 v1 v2 w1 w2 w3
  have f4 : H2 l4 = some (.row true 7 [zU]) := (w3 l4 (.inl rfl)).trans (by simp (maxDischargeDepth := 8) only [go_sem, hN0, hNE]; rfl)
  have f5 : H2 l5 = some (.row true 3 [zAn]) := (w3 l5 (.inr rfl)).trans (by simp (maxDischargeDepth := 8) only [go_sem, hN0, hNE]; rfl)
  have g54 : (l5 = l4) = False := eq_false (fun e => of_eq_false g45 e.symm)
  have go4 : (lo = l4) = False := eq_false (fun e => of_eq_false g4o e.symm)
  have go5 : (lo = l5) = False := eq_false (fun e => of_eq_false g5o e.symm)
  simp only [zU, zAn] at f4 f5
  rcases w1 with ⟨r1, r2, rfl, rfl⟩ | ⟨k1, k2, rfl, rfl, r1, r2, r3, r4, r5, r6⟩
  · have r1 : q.1.recs = [] := by simpa using r1
    have r2 : q.1.there = [] := by simpa using r2
    (have hA := And.intro w2 (And.intro f4 (And.intro f5 (And.intro g45 (And.intro g54 (And.intro g4o (And.intro go4 (And.intro g5o (go5)))))))); have hP := True.intro; have hNE := True.intro; have hC := True.intro; repeat' first
        | ((with_reducible apply te_drwK); (focus (simp (maxDischargeDepth := 8) only [effFl, List.map_cons, List.map_nil]; exact rfl)); (focus decide +kernel); (focus (simp (maxDischargeDepth := 8) only [go_sem, hNE, hA]; first | done | exact rfl)))
        | with_reducible first | refine k_seq ?_ | refine t_seq ?_ | refine t_ret ?_ | refine m_nil ?_
        | refine be_val ?_
        | (refine be_alloc ?_; intro la ha hn1; have hNE := And.intro hNE hn1)
        | refine be_store ?_
        | ((with_reducible apply me_storeZ); (focus (simp (maxDischargeDepth := 8) only [go_sem, hNE, hA]; first | done | exact rfl)); (focus (simp (maxDischargeDepth := 8) only [go_sem, hNE, hA]; first | done | exact rfl)); (focus (first | exact rm_sub _ _ | (intro _ _ e; cases e; done) | (repeat (first | exact rm_sub _ _ | refine upd_sub ?_ (by simp (maxDischargeDepth := 8) only [go_sem, hNE, hA])))) ); (focus (simp (maxDischargeDepth := 8) only [go_sem, hNE, hA]; first | done | exact rfl)); (focus (simp (maxDischargeDepth := 8) only [go_sem, hNE, hA]; first | done | exact rfl)); (focus (simp (maxDischargeDepth := 8) only [go_sem, hNE, hA]; first | done | exact rfl)); (focus (simp (maxDischargeDepth := 8) only [go_sem, hNE, hA]; first | done | exact rfl)); (focus (simp (maxDischargeDepth := 8) only [go_sem, hNE, hA]; first | done | exact rfl))))
    (first | apply pend rs70 | apply pendN rs70); (focus (simp (maxDischargeDepth := 8) only [hNE, go_sem, w2, f4, f5, g45, g54, g4o, go4, g5o, go5, encAn, r1, r2]; first | done | exact rfl)); (focus (simp (maxDischargeDepth := 8) only [hNE, go_sem, w2, f4, f5, g45, g54, g4o, go4, g5o, go5, encAn, r1, r2]; first | done | exact rfl))
  · have t1 : List.take q.1.recs.length (q.1.recs.map encS) = q.1.recs.map encS := List.take_of_length_le (by simp)
    have t2 : List.take q.1.there.length (q.1.there.map encB) = q.1.there.map encB := List.take_of_length_le (by simp)
    have y4 : (k1 = l4) = False := eq_false (fun e => by rw [e, f4] at r1; cases r1)
    have y5 : (k1 = l5) = False := eq_false (fun e => by rw [e, f5] at r1; cases r1)
    have y6 : (k2 = l4) = False := eq_false (fun e => by rw [e, f4] at r2; cases r2)
    have y7 : (k2 = l5) = False := eq_false (fun e => by rw [e, f5] at r2; cases r2)
    (have hA := And.intro w2 (And.intro f4 (And.intro f5 (And.intro g45 (And.intro g54 (And.intro g4o (And.intro go4 (And.intro g5o (go5)))))))); have hP := True.intro; have hNE := True.intro; have hC := True.intro; repeat' first
        | ((with_reducible apply te_drwK); (focus (simp (maxDischargeDepth := 8) only [effFl, List.map_cons, List.map_nil]; exact rfl)); (focus decide +kernel); (focus (simp (maxDischargeDepth := 8) only [go_sem, hNE, hA]; first | done | exact rfl)))
        | with_reducible first | refine k_seq ?_ | refine t_seq ?_ | refine t_ret ?_ | refine m_nil ?_
        | refine be_val ?_
        | (refine be_alloc ?_; intro la ha hn1; have hNE := And.intro hNE hn1)
        | refine be_store ?_
        | ((with_reducible apply me_storeZ); (focus (simp (maxDischargeDepth := 8) only [go_sem, hNE, hA]; first | done | exact rfl)); (focus (simp (maxDischargeDepth := 8) only [go_sem, hNE, hA]; first | done | exact rfl)); (focus (first | exact rm_sub _ _ | (intro _ _ e; cases e; done) | (repeat (first | exact rm_sub _ _ | refine upd_sub ?_ (by simp (maxDischargeDepth := 8) only [go_sem, hNE, hA])))) ); (focus (simp (maxDischargeDepth := 8) only [go_sem, hNE, hA]; first | done | exact rfl)); (focus (simp (maxDischargeDepth := 8) only [go_sem, hNE, hA]; first | done | exact rfl)); (focus (simp (maxDischargeDepth := 8) only [go_sem, hNE, hA]; first | done | exact rfl)); (focus (simp (maxDischargeDepth := 8) only [go_sem, hNE, hA]; first | done | exact rfl)); (focus (simp (maxDischargeDepth := 8) only [go_sem, hNE, hA]; first | done | exact rfl))))
    (first | apply pend rs70 | apply pendN rs70); (focus (simp (maxDischargeDepth := 8) only [hNE, go_sem, y4, y5, y6, y7, w2, f4, f5, g45, g54, g4o, go4, g5o, go5, encAn, r1, r2, t1, t2, mapM_closed7, mapM_closed6, mapM_closed5]; first | done | exact rfl)); (focus (simp (maxDischargeDepth := 8) only [hNE, go_sem, y4, y5, y6, y7, w2, f4, f5, g45, g54, g4o, go4, g5o, go5, encAn, r1, r2, t1, t2, mapM_closed7, mapM_closed6, mapM_closed5]; first | done | exact rfl))
end Go.Proofs.Ythdgdngdfijfhaa
namespace Go.Proofs.Ythdgdngdfijfhaa
open Go.RowKit Go.Proofs
set_option linter.unusedVariables false
set_option linter.unusedSimpArgs false
def Vu (u : Un) : Prop :=
  (u.access = 0 ∧ u.width = 0 ∧ u.recs.length ≤ 60 ∧ (∀ s ∈ u.recs, s.length ≤ 200) ∧ u.there = [] ∧ u.bytes = [] ∧ 0 ≤ u.pos ∧ u.pos ≤ (u.recs.length : Int) + 1) ∨
  (u.access = 1 ∧ 1 ≤ u.width ∧ u.width ≤ 200 ∧ u.recs.length ≤ 60 ∧ u.there.length = u.recs.length ∧
    (∀ (i : Nat) s t, u.recs[i]? = some s → u.there[i]? = some t → (s.length : Int) = if t = true then u.width else 0) ∧ u.there.getLast? ≠ some false ∧ u.bytes = [] ∧ u.ended = false ∧ u.pos = 0) ∨
  (u.access = 2 ∧ u.width = 0 ∧ u.recs = [] ∧ u.there = [] ∧ u.bytes.length ≤ 4000 ∧ u.ended = false ∧ 0 ≤ u.pos ∧ u.pos ≤ (u.bytes.length : Int))
theorem orE_zero : ∀ {l : List Int}, orE l = 0 ↔ ∀ x ∈ l, x = 0
  | [] => by simp [orE]
  | x :: l => by
    by_cases h : x = 0
    · simp [orE, h, orE_zero (l := l)]
    · simp [orE, h]
theorem rfs_zero {b : Bool} {e : Int} (he : e ≠ 0) : rfs b e = 0 ↔ b = false := by cases b <;> simp [rfs, he]
theorem recsL_zero (u : Un) : ∀ (l : List (List UInt8)) (i : Nat), recsL u l i = 0 ↔ ∀ (j : Nat) s, l[j]? = some s → recE u s ((u.there[i + j]?).getD false) = 0
  | [], i => by simp [recsL]
  | x :: l, i => by
    have ih := recsL_zero u l (i + 1)
    rw [recsL]
    split
    · rename_i h
      rw [ih]
      constructor
      · intro hh j s hs
        cases j with
        | zero => simp at hs; subst hs; simpa using h
        | succ j => have := hh j s (by simpa using hs); rwa [show i + 1 + j = i + (j + 1) by omega] at this
      · intro hh j s hs
        have := hh (j + 1) s (by simpa using hs)
        rwa [show i + (j + 1) = i + 1 + j by omega] at this
    · rename_i h
      constructor
      · intro hh; exact absurd hh h
      · intro hh; exact absurd (by simpa using hh 0 x rfl) h
theorem btw_true {n lo hi : Int} : btw n lo hi = true ↔ lo ≤ n ∧ n ≤ hi := by simp [btw]
theorem unitE_zero (u : Un) : unitE u = 0 ↔ Vu u := by
  have h1 : unitE u = 0 ↔ unitE1 u = 0 ∧ recsE u = 0 ∧ btw u.pos 0 (roomF u) = true := by
    unfold unitE
    split
    · rename_i h; rw [orE_zero]; simp [rfs_zero, h]
    · rename_i h; simp [h]
  have h2 : unitE1 u = 0 ↔ accF u.access u.width = 0 ∧ largeB u = false ∧ formB u = false := by
    unfold unitE1; rw [orE_zero]; simp [rfs_zero]
  have h3 : accF u.access u.width = 0 ↔ btw u.access 0 2 = true ∧ (if u.access = 1 then btw u.width 1 200 else decide (u.width = 0)) = true := by
    unfold accF; rw [orE_zero]; simp [rfs_zero]
  have h4 : recsE u = 0 ↔ ¬ (u.access = 1 ∧ u.there.length ≠ u.recs.length) ∧ recsL u u.recs 0 = 0 ∧ thereE u = 0 := by
    unfold recsE
    split
    · rename_i h; simp [h]
    · rename_i h
      split
      · rename_i h'; simp [h, h']
      · rename_i h'; simp [h, h']
  have h5 : thereE u = 0 ↔ u.there.getLast? ≠ some false := by unfold thereE; split <;> simp_all
  rw [h1, h2, h3, h4, h5, recsL_zero, btw_true, btw_true]
  simp only [largeB, formB, Bool.or_eq_false_iff, decide_eq_false_iff_not, Bool.and_eq_false_iff]
  constructor
  · rintro ⟨⟨⟨⟨a0, a1⟩, a2⟩, ⟨a3, a4⟩, ⟨⟨a5, a6⟩, a7⟩, a8⟩, ⟨b1, b2, b3⟩, c1, c2⟩
    have hac : u.access = 0 ∨ u.access = 1 ∨ u.access = 2 := by omega
    rcases hac with h | h | h
    · left
      have t0 : u.there = [] := List.eq_nil_of_length_eq_zero (by rcases a6 with h' | h' <;> simp [h] at h' ⊢; simpa using h')
      refine ⟨h, by simpa [h] using a2, by omega, fun s hs => ?_, t0, by simpa [h] using a7, c1, by simpa [roomF, h] using c2⟩
      obtain ⟨j, hj⟩ := List.mem_iff_getElem?.1 hs
      have := b2 j s hj
      simp only [recE, h, show ((0 : Int) = 1) = False by simp, if_false, rfs_zero (show (8 : Int) ≠ 0 by decide), decide_eq_false_iff_not] at this
      omega
    · right; left
      have b1' : u.there.length = u.recs.length := by
        apply Decidable.byContradiction; intro e; exact b1 ⟨h, e⟩
      have hw := a2
      rw [if_pos h, btw_true] at hw
      have hr : roomF u = 0 := by simp [roomF, h]
      rw [hr] at c2
      refine ⟨h, hw.1, hw.2, by omega, b1', fun i s t hs ht => ?_, b3, by simpa [h] using a7, by simpa [h] using a8, by omega⟩
      have := b2 i s hs
      rw [Nat.zero_add, ht] at this
      simp only [recE, h, if_true, Option.getD_some, rfs_zero (show (10 : Int) ≠ 0 by decide), decide_eq_false_iff_not, Decidable.not_not] at this
      exact this
    · right; right
      have r0 : u.recs = [] := List.eq_nil_of_length_eq_zero (by rcases a5 with h' | h' <;> simp [h] at h' ⊢; simpa using h')
      have t0 : u.there = [] := List.eq_nil_of_length_eq_zero (by rcases a6 with h' | h' <;> simp [h] at h' ⊢; simpa using h')
      exact ⟨h, by simpa [h] using a2, r0, t0, by omega, by simpa [h] using a8, c1, by simpa [roomF, h] using c2⟩
  · rintro (⟨h, hw, h1, h2, h3, h4, h5, h6⟩ | ⟨h, hw, hw2, h1, h2, h3, h4, h5, h6, h7⟩ | ⟨h, hw, h1, h2, h3, h4, h5, h6⟩)
    · refine ⟨⟨⟨by omega, by simp [h, hw]⟩, ⟨by omega, by simp [h4]⟩, ⟨⟨.inr (by omega), .inl (by simp [h3])⟩, .inl (by simp [h4])⟩, .inr (by simp [h])⟩, ⟨by simp [h], fun j s hs => ?_, by simp [h3]⟩, h5, by simp [roomF, h]; omega⟩
      have := h2 s (List.mem_of_getElem? hs)
      simp only [recE, h, show ((0 : Int) = 1) = False by simp, if_false, rfs_zero (show (8 : Int) ≠ 0 by decide), decide_eq_false_iff_not]
      omega
    · refine ⟨⟨⟨by omega, by simp [h, btw]; omega⟩, ⟨by omega, by simp [h5]⟩, ⟨⟨.inr (by omega), .inr (by simp [h])⟩, .inl (by simp [h5])⟩, .inl h6⟩, ⟨fun e => e.2 h2, fun j s hs => ?_, h4⟩, by omega, by simp [roomF, h]; omega⟩
      have hj : j < u.recs.length := by
        rcases Nat.lt_or_ge j u.recs.length with h' | h'
        · exact h'
        · rw [List.getElem?_eq_none h'] at hs; cases hs
      obtain ⟨t, ht⟩ : ∃ t, u.there[j]? = some t := ⟨_, List.getElem?_eq_getElem (by omega)⟩
      have := h3 j s t hs ht
      rw [Nat.zero_add, ht]
      simp only [recE, h, if_true, Option.getD_some, rfs_zero (show (10 : Int) ≠ 0 by decide), decide_eq_false_iff_not, Decidable.not_not]
      exact this
    · refine ⟨⟨⟨by omega, by simp [h, hw]⟩, ⟨by simp [h1], by omega⟩, ⟨⟨.inl (by simp [h1]), .inl (by simp [h2])⟩, .inr (by simp [h])⟩, .inl h4⟩, ⟨by simp [h], fun j s hs => by rw [h1] at hs; simp at hs, by simp [h2]⟩, h5, by simp [roomF, h]; omega⟩
end Go.Proofs.Ythdgdngdfijfhaa
namespace Go.Proofs.Ythdgdngdfijfhaa
open Go.RowKit Go.Proofs
set_option linter.unusedVariables false
set_option linter.unusedSimpArgs false
attribute [local irreducible] PPure CallN
theorem Vu_len {u : Un} (h : Vu u) : u.recs.length ≤ 60 ∧ u.there.length ≤ 60 ∧ 0 ≤ u.pos ∧ u.pos ≤ 10000 := by
  rcases h with ⟨h, hw, h1, h2, h3, h4, h5, h6⟩ | ⟨h, hw, hw2, h1, h2, h3, h4, h5, h6, h7⟩ | ⟨h, hw, h1, h2, h3, h4, h5, h6⟩
  · simp [h3]; omega
  · omega
  · simp [h1, h2]; omega
theorem actE_zero (a : Ac) : actE a = 0 ↔ (0 ≤ a.kind ∧ a.kind ≤ 7) ∧ a.bytes.length ≤ 4000 ∧ (a.bytes = [] ∨ a.kind = 1) := by
  unfold actE
  rw [orE_zero]
  by_cases e : a.bytes = []
  · simp [rfs_zero, btw, e]
  · by_cases k : a.kind = 1
    · simp [rfs_zero, btw, e, k]; try omega
    · simp [rfs_zero, btw, e, k]; try omega
theorem seq_valid {u : Un} {a : Ac} (h : u.access = 0) (hw : u.width = 0) (h1 : u.recs.length ≤ 60) (h2 : ∀ s ∈ u.recs, s.length ≤ 200) (h3 : u.there = []) (h4 : u.bytes = []) (h5 : 0 ≤ u.pos) (h6 : u.pos ≤ (u.recs.length : Int) + 1) : Vu (seqF u a).1 := by
  left
  unfold seqF
  split
  · split
    · exact ⟨h, hw, h1, h2, h3, h4, by simp, by simp; omega⟩
    · refine ⟨h, hw, h1, h2, h3, h4, ?_, ?_⟩ <;> simp only <;> split <;> omega
  split
  · exact ⟨h, hw, h1, h2, h3, h4, h5, h6⟩
  rename_i hb
  split
  · split
    · rename_i e; exact ⟨h, hw, h1, h2, h3, h4, by simp only; omega, by simp only; omega⟩
    · rename_i e; exact ⟨h, hw, h1, h2, h3, h4, by simp only; omega, by simp only; omega⟩
  split
  · exact ⟨h, hw, by simp; omega, fun s hs => h2 s (List.mem_of_mem_take hs), h3, h4, by simp only; omega, by simp; omega⟩
  split
  · exact ⟨h, hw, h1, h2, h3, h4, h5, h6⟩
  rename_i hb2
  split
  · exact ⟨h, hw, h1, h2, h3, h4, h5, h6⟩
  rename_i e60
  refine ⟨h, hw, by simp; omega, fun s hs => ?_, h3, h4, by simp only; omega, by simp; omega⟩
  simp only [List.mem_append, List.mem_singleton] at hs
  rcases hs with hs | hs
  · exact h2 s (List.mem_of_mem_take hs)
  · subst hs; omega
theorem dir_valid {u : Un} {a : Ac} (h : Vu u) (hac : u.access = 1) : Vu (dirF u a).1 := by
  have hv := h
  rcases h with ⟨h, _⟩ | ⟨h, hw, hw2, h1, h2, h3, h4, h5, h6, h7⟩ | ⟨h, _⟩
  · omega
  · unfold dirF
    split
    · rename_i hb
      rw [btw_true] at hb
      split
      · split
        · exact hv
        · split <;> exact hv
      · split
        · exact hv
        · rename_i hwl
          right; left
          obtain ⟨i, hi⟩ : ∃ i : Nat, a.number = (i : Int) + 1 := ⟨(a.number - 1).toNat, by omega⟩
          have e1 : (a.number - 1).toNat = i := by omega
          have e2 : a.number.toNat = i + 1 := by omega
          simp only [e1, e2, h2]
          refine ⟨h, hw, hw2, by simp; omega, by simp [h2], ?_, ?_, h5, h6, h7⟩
          · intro j s t hs ht
            rw [List.getElem?_set] at hs ht
            by_cases hij : i = j
            · subst hij
              simp only [if_true] at hs ht
              rw [if_pos (by simp; omega)] at hs
              rw [if_pos (by simp [h2]; omega)] at ht
              cases hs; cases ht
              simp; omega
            · simp only [hij, if_false] at hs ht
              rcases Nat.lt_or_ge j u.recs.length with hj | hj
              · rw [List.getElem?_append_left hj] at hs
                rw [List.getElem?_append_left (by omega)] at ht
                exact h3 j s t hs ht
              · rw [List.getElem?_append_right hj] at hs
                rw [List.getElem?_append_right (by omega)] at ht
                have q1 := List.eq_of_mem_replicate (List.mem_of_getElem? hs)
                have q2 := List.eq_of_mem_replicate (List.mem_of_getElem? ht)
                subst q1; subst q2; rfl
          · rw [List.getLast?_eq_getElem?, List.getElem?_set]
            simp only [List.length_set, List.length_append, List.length_replicate, h2]
            by_cases hij : i = u.recs.length + (i + 1 - u.recs.length) - 1
            · rw [if_pos hij, if_pos (by omega)]; simp
            · rw [if_neg hij]
              have hj : u.recs.length + (i + 1 - u.recs.length) - 1 < u.there.length := by omega
              rw [List.getElem?_append_left hj]
              rw [List.getLast?_eq_getElem?] at h4
              have : u.recs.length + (i + 1 - u.recs.length) - 1 = u.there.length - 1 := by omega
              rw [this]; exact h4
    · exact hv
  · omega
theorem str_valid {u : Un} {a : Ac} (h : Vu u) (hac : u.access = 2) (hal : a.bytes.length ≤ 4000) : Vu (strF u a).1 := by
  have hv := h
  rcases h with ⟨h, _⟩ | ⟨h, _⟩ | ⟨h, hw, h1, h2, h3, h4, h5, h6⟩
  · omega
  · omega
  · unfold strF
    split
    · split
      · rename_i hb; rw [btw_true] at hb
        exact .inr (.inr ⟨h, hw, h1, h2, h3, h4, by simp only; omega, by simp only; omega⟩)
      · exact hv
    split
    · split
      · rename_i hb; rw [btw_true] at hb
        split
        · exact hv
        · exact .inr (.inr ⟨h, hw, h1, h2, h3, h4, by simp only; omega, by simp only; omega⟩)
      · exact hv
    split
    · exact hv
    · rename_i hf
      refine .inr (.inr ⟨h, hw, h1, h2, ?_, h4, by simp only; omega, ?_⟩)
      · simp; omega
      · simp; omega
theorem done_valid {u : Un} {a : Ac} (h : Vu u) (ha : actE a = 0) : Vu (doneF u a).1 := by
  have hv := h
  rw [actE_zero] at ha
  unfold doneF
  split
  · exact hv
  rename_i hp
  split
  · exact hv
  split
  · exact hv
  split
  · rename_i h3
    have hp : ¬ u.access = 1 := by simpa [permF, h3] using hp
    rcases h with ⟨h, hw, h1, h2, h3, h4, h5, h6⟩ | ⟨h, _⟩ | ⟨h, hw, h1, h2, h3, h4, h5, h6⟩
    · exact .inl ⟨h, hw, h1, h2, h3, h4, by simp, by simp; omega⟩
    · exact absurd h hp
    · exact .inr (.inr ⟨h, hw, h1, h2, h3, h4, by simp, by simp⟩)
  split
  · rename_i h0
    rcases h with ⟨h, hw, h1, h2, h3, h4, h5, h6⟩ | ⟨h, _⟩ | ⟨h, _⟩
    · exact seq_valid h hw h1 h2 h3 h4 h5 h6
    · omega
    · omega
  split
  · rename_i h1; exact dir_valid hv h1
  · rename_i h0 h1
    have h2 : u.access = 2 := by rcases h with ⟨h, _⟩ | ⟨h, _⟩ | ⟨h, _⟩ <;> omega
    exact str_valid hv h2 ha.2.1
theorem p70 (u : Un) (a : Ac) (h : Vu u) (ha : actE a = 0) : PPure Try.prog 70 [encU u, encAc a] (.tup [encU (doneF u a).1, encAn (doneF u a).2]) := by
  have hlen := Vu_len h
  rw [actE_zero] at ha
  by_cases h0 : permF u.access a.kind = false ∨ a.kind = 6 ∨ a.kind = 7 ∨ a.kind = 3
  · exact p70a u a (by omega) (by omega) (by omega) h0
  have hperm : permF u.access a.kind = true := by
    cases e : permF u.access a.kind
    · exact absurd (.inl e) h0
    · rfl
  have h6 : ¬ a.kind = 6 := fun e => h0 (.inr (.inl e))
  have h7 : ¬ a.kind = 7 := fun e => h0 (.inr (.inr (.inl e)))
  have h3 : ¬ a.kind = 3 := fun e => h0 (.inr (.inr (.inr e)))
  rcases h with ⟨h, hw, h1, h2, h3', h4, h5, h6'⟩ | ⟨h, hw, hw2, h1, h2, h3', h4, h5, h6', h7'⟩ | ⟨h, hw, h1, h2, h3', h4, h5, h6'⟩
  · by_cases hr : u.recs = []
    · exact p70se u a (by rw [hr] at h6'; simp at h6'; omega) hr h3' h hperm h6 h7 h3
    · exact p70s u a u.pos.toNat (by omega) (by omega) h1 hr h3' h hperm h6 h7 h3
  · by_cases hr : u.recs = []
    · exact p70de u a h2 h1 hw2 hr h hperm h6 h7 h3
    · exact p70dr u a h2 h1 hw2 hr h hperm h6 h7 h3
  · exact p70t u a u.pos.toNat (by omega) (by omega) h3' ha.2.1 h1 h2 h hperm h6 h7 h3
end Go.Proofs.Ythdgdngdfijfhaa
namespace Go.Proofs.Ythdgdngdfijfhaa
open Go.RowKit Go.Proofs
set_option linter.unusedVariables false
set_option linter.unusedSimpArgs false
attribute [local irreducible] PPure CallN Tops TopsDm T
def zeU : Un := ⟨0, 0, [], [], [], false, 0⟩
def zeA : An := ⟨0, [], 0⟩
def doneG (u : Un) (a : Ac) : (Un × An) × Int := if orE [unitE u, actE a] = 0 then (doneF u a, 0) else ((zeU, zeA), orE [unitE u, actE a])
set_option maxHeartbeats 1000000 in
theorem p29 (u : Un) (a : Ac) (hl : u.recs.length ≤ 1000) (hl2 : u.there.length ≤ 1000) : PPure Try.prog 29 [encU u, encAc a] (.tup [encU (doneG u a).1.1, encAn (doneG u a).1.2, .int .i64 (doneG u a).2]) := by
  have h1 := p16 u hl hl2
  have h2 := p71 a
  by_cases hz : orE [unitE u, actE a] = 0
  · have ez := dnz0 hz
    have hzz := hz
    rw [orE_zero] at hzz
    have hv := (unitE_zero u).1 (hzz _ (by simp))
    have ha := hzz (actE a) (by simp)
    have h3 := p70 u a hv ha
    have hs : doneG u a = (doneF u a, 0) := by rw [doneG, if_pos hz]
    rw [hs]
    generalize doneF u a = q at h3 ⊢
    simp only [encU, encAc, encAn] at h1 h2 h3 ⊢
    (refine ppure_of_T ok29 (by simp only [List.length_cons, List.length_nil]; decide) ?_; refine t_seq ?_)
    (have hA := ez; have hP := And.intro h1 (And.intro h2 (And.intro h3 (And.intro @p54_2 (True.intro)))); have hNE := True.intro; have hC := True.intro; repeat' first
        | ((with_reducible apply te_drwA); (focus (simp (maxDischargeDepth := 8) only [effFlA, List.map_cons, List.map_nil]; exact rfl)); (focus decide +kernel))
        | ((with_reducible apply te_drwK); (focus (simp (maxDischargeDepth := 8) only [effFl, List.map_cons, List.map_nil]; exact rfl)); (focus decide +kernel); (focus (simp (maxDischargeDepth := 8) only [go_sem, hNE, hA]; first | done | exact rfl)))
        | with_reducible first | refine k_seq ?_ | refine t_seq ?_ | refine t_reg ?_ | refine t_nil ?_ | refine t_skip ?_ | refine t_ret ?_ | refine m_nil ?_
        | refine ae_val ?_
        | refine ae_callS ?_
        | refine be_val ?_
        | refine be_callS ?_
        | refine ae_box ?_
        | (refine ae_alloc ?_; intro la ha hn1; have hNE := And.intro hNE hn1)
        | refine ae_store ?_
        | ((with_reducible apply me_storeZ); (focus (simp (maxDischargeDepth := 8) only [go_sem, hNE, hA]; first | done | exact rfl)); (focus (simp (maxDischargeDepth := 8) only [go_sem, hNE, hA]; first | done | exact rfl)); (focus (first | exact rm_sub _ _ | (intro _ _ e; cases e; done) | (repeat (first | exact rm_sub _ _ | refine upd_sub ?_ (by simp (maxDischargeDepth := 8) only [go_sem, hNE, hA])))) ); (focus (simp (maxDischargeDepth := 8) only [go_sem, hNE, hA]; first | done | exact rfl)); (focus (simp (maxDischargeDepth := 8) only [go_sem, hNE, hA]; first | done | exact rfl)); (focus (simp (maxDischargeDepth := 8) only [go_sem, hNE, hA]; first | done | exact rfl)); (focus (simp (maxDischargeDepth := 8) only [go_sem, hNE, hA]; first | done | exact rfl)); (focus (simp (maxDischargeDepth := 8) only [go_sem, hNE, hA]; first | done | exact rfl)))
        | refine a_cond ?_ ?_
        | (with_reducible intro hc; with_reducible exact Bool.noConfusion hc)
        | (with_reducible intro hc; have hC := And.intro hC hc))
    (first | apply pend rs29 | apply pendN rs29); (focus (simp (maxDischargeDepth := 8) only [hNE, go_sem]; first | done | exact rfl)); (focus (simp (maxDischargeDepth := 8) only [hNE, go_sem]; first | done | exact rfl))
  · have ez := dnz1 hz
    have hs : doneG u a = ((zeU, zeA), orE [unitE u, actE a]) := by rw [doneG, if_neg hz]
    rw [hs]
    simp only [encU, encAc, encAn, zeU, zeA, List.map_nil] at h1 h2 ⊢
    (refine ppure_of_T ok29 (by simp only [List.length_cons, List.length_nil]; decide) ?_; refine t_seq ?_)
    (have hA := ez; have hP := And.intro h1 (And.intro h2 (And.intro @p54_2 (True.intro))); have hNE := True.intro; have hC := True.intro; repeat' first
        | ((with_reducible apply te_drwA); (focus (simp (maxDischargeDepth := 8) only [effFlA, List.map_cons, List.map_nil]; exact rfl)); (focus decide +kernel))
        | with_reducible first | refine k_seq ?_ | refine t_seq ?_ | refine t_reg ?_ | refine t_nil ?_ | refine t_ret ?_ | refine k_seq_ret ?_ | refine m_nil ?_
        | refine ae_val ?_
        | refine be_val ?_
        | refine be_callS ?_
        | refine ae_box ?_
        | (refine ae_alloc ?_; intro la ha hn1; have hNE := And.intro hNE hn1)
        | refine ae_store ?_
        | refine a_cond ?_ ?_
        | (with_reducible intro hc; with_reducible exact Bool.noConfusion hc)
        | (with_reducible intro hc; have hC := And.intro hC hc))
    (first | apply pend rs29 | apply pendN rs29); (focus (simp (maxDischargeDepth := 8) only [hNE, go_sem]; first | done | exact rfl)); (focus (simp (maxDischargeDepth := 8) only [hNE, go_sem]; first | done | exact rfl))
end Go.Proofs.Ythdgdngdfijfhaa
namespace Go.Proofs.Ythdgdngdfijfhaa
open Go.RowKit Go.Proofs
set_option linter.unusedVariables false
set_option linter.unusedSimpArgs false
attribute [local irreducible] PPure CallN Tops TopsDm T
def runL : Un → List Ac → Un × List An
  | u, [] => (u, [])
  | u, a :: l => ((runL (doneF u a).1 l).1, (doneF u a).2 :: (runL (doneF u a).1 l).2)
theorem actsL_zero : ∀ (l : List Ac) (i : Nat), (actsL l i).2 = 0 ↔ ∀ a ∈ l, actE a = 0
  | [], i => by simp [actsL]
  | a :: l, i => by
    rw [actsL]
    split
    · rename_i h; rw [actsL_zero l (i + 1)]; simp [h]
    · rename_i h; simp [h]
theorem runL_append : ∀ (l : List Ac) (u : Un) (a : Ac), runL u (l ++ [a]) = ((doneF (runL u l).1 a).1, (runL u l).2 ++ [(doneF (runL u l).1 a).2])
  | [], u, a => rfl
  | b :: l, u, a => by simp only [List.cons_append, runL, runL_append l]
theorem runL_len : ∀ (l : List Ac) (u : Un), (runL u l).2.length = l.length
  | [], u => rfl
  | b :: l, u => by simp [runL, runL_len l]
def runG (u : Un) (l : List Ac) : ((Un × List An) × Int) × Int :=
  if unitE u = 0 then if (actsE l).2 = 0 then ((runL u l, (l.length : Int)), 0) else (((zeU, []), ((actsE l).1 : Int)), (actsE l).2) else (((zeU, []), 0), unitE u)
def RunI (lx l4 : Lab) (x : Un) (os : List An) (v : PV) (H0 : Hp) : Prop :=
  H0 lx = some (.row true 7 [encU x]) ∧ H0 l4 = some (.row true 7 [zU]) ∧ (lx = l4) = False ∧ (l4 = lx) = False ∧
  ((os = [] ∧ v = .list .nil []) ∨ ∃ lr, v = .arr lr 3 0 os.length ∧ H0 lr = some (.row true 3 (os.map encAn)) ∧ (lr = lx) = False ∧ (lx = lr) = False ∧ (lr = l4) = False ∧ (l4 = lr) = False)
attribute [local go_sem] encAc Int.toNat_natCast List.getElem?_map Option.map_some in
set_option maxHeartbeats 2000000 in
theorem p24 (u : Un) (l : List Ac) (hl : u.recs.length ≤ 1000) (hl2 : u.there.length ≤ 1000) (hll : l.length ≤ 1000) :
    PPure Try.prog 24 [encU u, .list .any (l.map encAc)] (.tup [encU (runG u l).1.1.1, .list .any ((runG u l).1.1.2.map encAn), .int .i64 (runG u l).1.2, .int .i64 (runG u l).2]) := by
  have h1 := p16 u hl hl2
  have h2 := p68 l hll
  by_cases hz : unitE u = 0
  · have ez := dnz0 hz
    have hv := (unitE_zero u).1 hz
    by_cases ha : (actsE l).2 = 0
    · have ea := dnz0 ha
      have hs : runG u l = ((runL u l, (l.length : Int)), 0) := by rw [runG, if_pos hz, if_pos ha]
      rw [hs]
      have h60 : l.length ≤ 60 := by
        unfold actsE at ha; split at ha
        · cases ha
        · omega
      have hall : ∀ a ∈ l, actE a = 0 := by
        unfold actsE at ha; split at ha
        · cases ha
        · exact (actsL_zero l 0).1 ha
      have hcp := p69 u hl hl2
      simp only [encU] at h1 hcp ⊢
      (refine ppure_of_T ok24 (by simp only [List.length_cons, List.length_nil]; decide) ?_; refine t_seq ?_)
      (have hA := And.intro ez (ea); have hP := And.intro h1 (And.intro h2 (And.intro hcp (True.intro))); have hNE := True.intro; have hC := True.intro; repeat' first
          | with_reducible first | refine k_seq ?_ | refine t_seq ?_ | refine t_reg ?_ | refine t_nil ?_ | refine t_skip ?_ | refine t_block ?_
          | refine ae_val ?_
          | refine ae_callS ?_
          | refine ae_box ?_
          | (refine ae_alloc ?_; intro la ha hn1; have hNE := And.intro hNE hn1)
          | refine ae_store ?_
          | refine a_cond ?_ ?_
          | (with_reducible intro hc; with_reducible exact Bool.noConfusion hc)
          | (with_reducible intro hc; have hC := And.intro hC hc))
      rename_i l4 a4 n4 x4 z1 z2
      have hN0 := hNE
      obtain ⟨lx, h5⟩ : ∃ l, l = la := ⟨la, rfl⟩
      subst h5
      refine t_loopE (fun (k0 : Nat) (E0 : Nat → PV) (H0 : Hp) => ∃ (i : Nat) (x : Un) (os : List An) (v : PV), i + k0 = l.length ∧ runL u (l.take i) = (x, os) ∧ Vu x ∧ RunI lx l4 x os v H0 ∧ E0 38 = .int .i64 i ∧ E0 12 = v) (l.length) ⟨0, u, [], .list .nil [], (by first | omega | rfl | assumption | (simp only [go_sem, cast0]; first | done | rfl | assumption | omega)), ?_, ?_, ?_, (by simp only [go_sem, cast0]; first | done | rfl), (by simp only [go_sem, cast0]; first | done | rfl)⟩ ?_
      · rfl
      · exact hv
      · refine ⟨?_, ?_, ?_, ?_, .inl ⟨rfl, rfl⟩⟩
        · simp (maxDischargeDepth := 8) only [go_sem, hN0, encU]
        · simp (maxDischargeDepth := 8) only [go_sem, hN0, zU]
        · simp (maxDischargeDepth := 8) only [go_sem, hN0]
        · simp (maxDischargeDepth := 8) only [go_sem, hN0]
      rintro k0 E0 H0 hfr0 ⟨i, x, os, v, hk, hx1, hv1, hI, h0_38, h0_12⟩
      have e0_1 := hfr0 1 rfl; have e0_4 := hfr0 4 rfl; have e0_5 := hfr0 5 rfl; have e0_6 := hfr0 6 rfl; have e0_7 := hfr0 7 rfl; have e0_11 := hfr0 11 rfl; have e0_36 := hfr0 36 rfl; have e0_37 := hfr0 37 rfl
      simp only [go_sem, cast0] at e0_1 e0_4 e0_5 e0_6 e0_7 e0_11 e0_36 e0_37
      clear hfr0
      obtain ⟨q1, q2, q3, q4, q5⟩ := hI
      simp only [encU, zU] at q1 q2
      by_cases hi : i < l.length
      · obtain ⟨ac, hx, hdr⟩ := at_list hi
        have hlt := lt_int hi
        have hge : (0 : Int) ≤ (i : Int) := by omega
        have hw := wrap_next hi hll
        have h70 := p70 x ac hv1 (hall ac (List.mem_of_getElem? hx))
        have hv2 := done_valid (a := ac) hv1 (hall ac (List.mem_of_getElem? hx))
        have hx2 : runL u (l.take (i + 1)) = ((doneF x ac).1, os ++ [(doneF x ac).2]) := by
          rw [List.take_add_one, hx, Option.toList_some, runL_append, hx1]
        generalize doneF x ac = q at h70 hv2 hx2
        simp only [encU, encAc, encAn] at h70
        have hol : os.length = i := by
          have := runL_len (l.take i) u
          rw [hx1] at this; simp at this; omega
        rcases q5 with ⟨rfl, rfl⟩ | ⟨lr, rfl, q6, q7, q8, q9, q10⟩
        · (have hA := And.intro e0_1 (And.intro e0_4 (And.intro e0_5 (And.intro e0_6 (And.intro e0_7 (And.intro e0_11 (And.intro e0_36 (And.intro e0_37 (And.intro h0_38 (And.intro h0_12 (And.intro q1 (And.intro q2 (And.intro q3 (And.intro q4 (And.intro hlt (And.intro hge (hx)))))))))))))))); have hP := And.intro h70 (True.intro); have hNE := True.intro; have hC := True.intro; repeat' first
              | ((with_reducible apply te_drwE); (focus (simp (maxDischargeDepth := 8) only [effFl, List.map_cons, List.map_nil]; exact rfl)); (focus decide +kernel))
              | with_reducible first | refine k_seq ?_ | refine t_seq ?_ | refine t_reg ?_ | refine t_nil ?_ | refine t_skip ?_ | refine k_blk ?_ | refine t_block ?_ | refine m_nil ?_
              | refine ae_val ?_
              | refine ae_callS ?_
              | refine be_val ?_
              | ((with_reducible apply me_appendU); (with_reducible exact app_46; with_reducible exact c_59); (focus (simp (maxDischargeDepth := 8) only [go_sem, hNE, hA]; first | done | exact rfl)); (focus (simp (maxDischargeDepth := 8) only [go_sem, hNE, hA]; first | done | exact rfl)); exact rfl; (focus (first | exact rfl | (simp (maxDischargeDepth := 8) only [go_sem, hNE, hA]; done))); (focus (simp (maxDischargeDepth := 8) only [go_sem, hNE, hA]; done)); (focus (simp (maxDischargeDepth := 8) only [go_sem, hNE, hA]; done)); (focus (simp (maxDischargeDepth := 8) only [go_sem, hNE, hA, roomB, List.length_take, List.length_append]; first | done | omega)); (intro la ha hn1; have hNE := And.intro hNE hn1))
              | (refine ae_alloc ?_; intro la ha hn1; have hNE := And.intro hNE hn1)
              | refine ae_store ?_
              | refine be_store ?_
              | refine a_cond ?_ ?_
              | (with_reducible intro hc; with_reducible exact Bool.noConfusion hc)
              | (with_reducible intro hc; have hC := And.intro hC hc))
          have hN1 := hNE
          refine k_invE (k0 - 1) (by omega) ⟨i + 1, q.1, [] ++ [q.2], .arr la 3 0 (0 + 1), (by omega), ?_, ?_, ?_, (by simp only [go_sem, e0_1, e0_4, e0_5, e0_6, e0_7, e0_11, e0_36, e0_37, h0_38, h0_12, hw]; first | done | rfl), (by simp only [go_sem, e0_1, e0_4, e0_5, e0_6, e0_7, e0_11, e0_36, e0_37, h0_38, h0_12, hw]; first | done | rfl)⟩
          · exact hx2
          · exact hv2
          · refine ⟨?_, ?_, q3, q4, .inr ⟨la, by simp, ?_, ?_, ?_, ?_, ?_⟩⟩
            · simp (maxDischargeDepth := 8) only [go_sem, hN1, q1, q2, q3, q4, encU]
            · simp (maxDischargeDepth := 8) only [go_sem, hN1, q1, q2, q3, q4, zU]
            · simp (maxDischargeDepth := 8) only [go_sem, hN1, q1, q2, q3, q4, encAn]
            · simp (maxDischargeDepth := 8) only [go_sem, hN1, q1, q2, q3, q4]
            · simp (maxDischargeDepth := 8) only [go_sem, hN1, q1, q2, q3, q4]
            · simp (maxDischargeDepth := 8) only [go_sem, hN1, q1, q2, q3, q4]
            · simp (maxDischargeDepth := 8) only [go_sem, hN1, q1, q2, q3, q4]
        · have t1 : List.take os.length (os.map encAn) = os.map encAn := List.take_of_length_le (by simp)
          (have hA := And.intro e0_1 (And.intro e0_4 (And.intro e0_5 (And.intro e0_6 (And.intro e0_7 (And.intro e0_11 (And.intro e0_36 (And.intro e0_37 (And.intro h0_38 (And.intro h0_12 (And.intro q1 (And.intro q2 (And.intro q3 (And.intro q4 (And.intro q6 (And.intro q7 (And.intro q8 (And.intro q9 (And.intro q10 (And.intro t1 (And.intro hlt (And.intro hge (hx)))))))))))))))))))))); have hP := And.intro h70 (True.intro); have hNE := True.intro; have hC := True.intro; repeat' first
              | ((with_reducible apply te_drwH lr lr); (focus (simp (maxDischargeDepth := 8) only [effFl, List.map_cons, List.map_nil]; exact rfl)); (focus decide +kernel))
              | with_reducible first | refine k_seq ?_ | refine t_seq ?_ | refine t_reg ?_ | refine t_nil ?_ | refine t_skip ?_ | refine k_blk ?_ | refine t_block ?_ | refine m_nil ?_
              | refine ae_val ?_
              | refine ae_callS ?_
              | refine be_val ?_
              | ((with_reducible apply me_appendQ); (with_reducible exact app_46; with_reducible exact c_59); (focus (simp (maxDischargeDepth := 8) only [go_sem, hNE, hA]; first | done | exact rfl)); (focus (simp (maxDischargeDepth := 8) only [go_sem, hNE, hA]; first | done | exact rfl)); (focus (simp (maxDischargeDepth := 8) only [go_sem, hNE, hA]; first | done | exact rfl)); (focus (simp (maxDischargeDepth := 8) only [go_sem, hNE, hA, roomB, List.length_take, List.length_append]; first | done | omega)); (focus (simp (maxDischargeDepth := 8) only [go_sem, hNE, hA]; first | done | exact rfl)); (focus (simp (maxDischargeDepth := 8) only [go_sem, hNE, hA]; done)); (focus (simp (maxDischargeDepth := 8) only [go_sem, hNE, hA, roomB, List.length_take, List.length_append]; first | done | omega)); (intro la ha; have hn1 := or_ne ha; have hNE := And.intro hNE hn1))
              | (refine ae_alloc ?_; intro la ha hn1; have hNE := And.intro hNE hn1)
              | refine ae_store ?_
              | refine be_store ?_
              | refine a_cond ?_ ?_
              | (with_reducible intro hc; with_reducible exact Bool.noConfusion hc)
              | (with_reducible intro hc; have hC := And.intro hC hc))
          have hN1 := hNE
          refine k_invE (k0 - 1) (by omega) ⟨i + 1, q.1, os ++ [q.2], .arr la 3 0 (os.length + 1), (by omega), ?_, ?_, ?_, (by simp only [go_sem, e0_1, e0_4, e0_5, e0_6, e0_7, e0_11, e0_36, e0_37, h0_38, h0_12, hw]; first | done | rfl), (by simp only [go_sem, e0_1, e0_4, e0_5, e0_6, e0_7, e0_11, e0_36, e0_37, h0_38, h0_12, hw]; first | done | rfl)⟩
          · exact hx2
          · exact hv2
          · refine ⟨?_, ?_, q3, q4, .inr ⟨la, by simp, ?_, ?_, ?_, ?_, ?_⟩⟩
            · simp (maxDischargeDepth := 8) only [go_sem, hN1, q1, q2, q3, q4, q6, q7, q8, q9, q10, encU]
            · simp (maxDischargeDepth := 8) only [go_sem, hN1, q1, q2, q3, q4, q6, q7, q8, q9, q10, zU]
            · simp (maxDischargeDepth := 8) only [go_sem, hN1, q1, q2, q3, q4, q6, q7, q8, q9, q10, t1, encAn, List.map_append]
            · simp (maxDischargeDepth := 8) only [go_sem, hN1, q1, q2, q3, q4, q6, q7, q8, q9, q10]
            · simp (maxDischargeDepth := 8) only [go_sem, hN1, q1, q2, q3, q4, q6, q7, q8, q9, q10]
            · simp (maxDischargeDepth := 8) only [go_sem, hN1, q1, q2, q3, q4, q6, q7, q8, q9, q10]
            · simp (maxDischargeDepth := 8) only [go_sem, hN1, q1, q2, q3, q4, q6, q7, q8, q9, q10]
      · have hlt := nlt_int hi
        have hil : i = l.length := by omega
        rw [hil, List.take_length] at hx1
        rw [hx1]
        rcases q5 with ⟨rfl, rfl⟩ | ⟨lr, rfl, q6, q7, q8, q9, q10⟩
        · (have hA := And.intro e0_1 (And.intro e0_4 (And.intro e0_5 (And.intro e0_6 (And.intro e0_7 (And.intro e0_11 (And.intro e0_36 (And.intro e0_37 (And.intro h0_38 (And.intro h0_12 (And.intro q1 (And.intro q2 (And.intro q3 (And.intro q4 (hlt)))))))))))))); have hP := True.intro; have hNE := True.intro; have hC := True.intro; repeat' first
              | with_reducible first | refine k_seq ?_ | refine t_seq ?_ | refine t_reg ?_ | refine t_nil ?_ | refine t_ret ?_ | refine t_exit ?_ | refine k_seq_exit ?_ | refine k_blk_exit ?_ | refine k_invE_exit ?_
              | refine ae_val ?_
              | refine ae_store ?_
              | refine a_cond ?_ ?_
              | (with_reducible intro hc; with_reducible exact Bool.noConfusion hc)
              | (with_reducible intro hc; have hC := And.intro hC hc))
          (first | apply pend rs24 | apply pendN rs24); (focus (simp (maxDischargeDepth := 8) only [hNE, go_sem, e0_1, e0_4, e0_5, e0_6, e0_7, e0_11, e0_36, e0_37, h0_38, h0_12, q1, q2, q3, q4]; first | done | exact rfl)); (focus (simp (maxDischargeDepth := 8) only [hNE, go_sem, e0_1, e0_4, e0_5, e0_6, e0_7, e0_11, e0_36, e0_37, h0_38, h0_12, q1, q2, q3, q4]; first | done | exact rfl))
        · have t1 : List.take os.length (os.map encAn) = os.map encAn := List.take_of_length_le (by simp)
          (have hA := And.intro e0_1 (And.intro e0_4 (And.intro e0_5 (And.intro e0_6 (And.intro e0_7 (And.intro e0_11 (And.intro e0_36 (And.intro e0_37 (And.intro h0_38 (And.intro h0_12 (And.intro q1 (And.intro q2 (And.intro q3 (And.intro q4 (And.intro q6 (And.intro q7 (And.intro q8 (And.intro q9 (And.intro q10 (hlt))))))))))))))))))); have hP := True.intro; have hNE := True.intro; have hC := True.intro; repeat' first
              | with_reducible first | refine k_seq ?_ | refine t_seq ?_ | refine t_reg ?_ | refine t_nil ?_ | refine t_ret ?_ | refine t_exit ?_ | refine k_seq_exit ?_ | refine k_blk_exit ?_ | refine k_invE_exit ?_
              | refine ae_val ?_
              | refine ae_store ?_
              | refine a_cond ?_ ?_
              | (with_reducible intro hc; with_reducible exact Bool.noConfusion hc)
              | (with_reducible intro hc; have hC := And.intro hC hc))
          (first | apply pend rs24 | apply pendN rs24); (focus (simp (maxDischargeDepth := 8) only [hNE, go_sem, e0_1, e0_4, e0_5, e0_6, e0_7, e0_11, e0_36, e0_37, h0_38, h0_12, q1, q2, q3, q4, q6, q7, q8, q9, q10, t1, mapM_closed7, mapM_closed6, mapM_closed5]; first | done | exact rfl)); (focus (simp (maxDischargeDepth := 8) only [hNE, go_sem, e0_1, e0_4, e0_5, e0_6, e0_7, e0_11, e0_36, e0_37, h0_38, h0_12, q1, q2, q3, q4, q6, q7, q8, q9, q10, t1, mapM_closed7, mapM_closed6, mapM_closed5]; first | done | exact rfl))
    · have ea := dnz1 ha
      have hs : runG u l = (((zeU, []), ((actsE l).1 : Int)), (actsE l).2) := by rw [runG, if_pos hz, if_neg ha]
      rw [hs]
      simp only [encU, zeU, List.map_nil] at h1 ⊢
      (refine ppure_of_T ok24 (by simp only [List.length_cons, List.length_nil]; decide) ?_; refine t_seq ?_)
      (have hA := And.intro ez (ea); have hP := And.intro h1 (And.intro h2 (True.intro)); have hNE := True.intro; have hC := True.intro; repeat' first
          | with_reducible first | refine k_seq ?_ | refine t_seq ?_ | refine t_reg ?_ | refine t_nil ?_ | refine t_skip ?_ | refine t_ret ?_ | refine k_seq_ret ?_
          | refine ae_val ?_
          | refine ae_callS ?_
          | refine ae_box ?_
          | (refine ae_alloc ?_; intro la ha hn1; have hNE := And.intro hNE hn1)
          | refine ae_store ?_
          | refine a_cond ?_ ?_
          | (with_reducible intro hc; with_reducible exact Bool.noConfusion hc)
          | (with_reducible intro hc; have hC := And.intro hC hc))
      (first | apply pend rs24 | apply pendN rs24); (focus (simp (maxDischargeDepth := 8) only [hNE, go_sem]; first | done | exact rfl)); (focus (simp (maxDischargeDepth := 8) only [hNE, go_sem]; first | done | exact rfl))
  · have ez := dnz1 hz
    have hs : runG u l = (((zeU, []), 0), unitE u) := by rw [runG, if_neg hz]
    rw [hs]
    simp only [encU, zeU, List.map_nil] at h1 ⊢
    (refine ppure_of_T ok24 (by simp only [List.length_cons, List.length_nil]; decide) ?_; refine t_seq ?_)
    (have hA := ez; have hP := And.intro h1 (True.intro); have hNE := True.intro; have hC := True.intro; repeat' first
        | with_reducible first | refine k_seq ?_ | refine t_seq ?_ | refine t_reg ?_ | refine t_nil ?_ | refine t_ret ?_ | refine k_seq_ret ?_
        | refine ae_val ?_
        | refine ae_callS ?_
        | refine ae_box ?_
        | (refine ae_alloc ?_; intro la ha hn1; have hNE := And.intro hNE hn1)
        | refine ae_store ?_
        | refine a_cond ?_ ?_
        | (with_reducible intro hc; with_reducible exact Bool.noConfusion hc)
        | (with_reducible intro hc; have hC := And.intro hC hc))
    (first | apply pend rs24 | apply pendN rs24); (focus (simp (maxDischargeDepth := 8) only [hNE, go_sem]; first | done | exact rfl)); (focus (simp (maxDischargeDepth := 8) only [hNE, go_sem]; first | done | exact rfl))
end Go.Proofs.Ythdgdngdfijfhaa
namespace Go.Proofs.Ythdgdngdfijfhaa
open Go.RowKit Go.Proofs
set_option linter.unusedVariables false
set_option linter.unusedSimpArgs false
attribute [local irreducible] PPure CallN Tops TopsDm T
def numL : List UInt8 → Nat
  | [] => 0
  | c :: r => c.toNat + 256 * numL r
theorem numL_lt : ∀ s : List UInt8, numL s < 256 ^ s.length
  | [] => by simp [numL]
  | c :: r => by
    have := numL_lt r
    have hc := c.toNat_lt
    simp only [numL, List.length_cons, Nat.pow_succ]
    omega
def badK (k : UInt8) (n : Nat) : Bool := decide (200 < n) || (decide (k.toNat = 69) && decide (0 < n)) || (!decide (k.toNat = 69) && !decide (k.toNat = 82))
structure Fr0 where
  rcd : List UInt8
  kind : Nat
  rest : List UInt8
  ok : Bool
def noF (s : List UInt8) : Fr0 := ⟨[], 0, s, false⟩
def nextF (s : List UInt8) : Fr0 :=
  match s[0]? with
  | none => noF s
  | some k =>
    let n := numL ((s.take 4).drop 1)
    if s.length < 8 then noF s else if badK k n = true then noF s else if s.length < n + 8 then noF s
    else ⟨(s.take (n + 4)).drop 4, k.toNat, s.drop (n + 8), s.take (n + 8) == frmF k ((s.take (n + 4)).drop 4)⟩
def encF (f : Fr0) : PV := .tup [.str f.rcd, .int .u8 (f.kind : Int), .str f.rest, .bool f.ok]
attribute [local go_sem] Int.le_refl in
set_option maxHeartbeats 2000000 in
theorem p94 (h109 : ∀ s : List UInt8, s.length ≤ 7 → PPure Try.prog 109 [.str s] (.int .i64 ((numL s : Nat) : Int))) (s : List UInt8) (hl : s.length ≤ 30000) : PPure Try.prog 94 [.str s] (encF (nextF s)) := by
  by_cases h8 : s.length < 8
  · have e8 : decide ((s.length : Int) < 8) = true := by simp; omega
    have hs : nextF s = noF s := by
      unfold nextF
      split
      · rfl
      · simp only [h8, if_true]
    rw [hs]
    simp only [encF, noF]
    (refine ppure_of_T ok94 (by simp only [List.length_cons, List.length_nil]; decide) ?_; refine t_seq ?_)
    (have hA := e8; have hP := True.intro; have hNE := True.intro; have hC := True.intro; repeat' first
        | with_reducible first | refine k_seq ?_ | refine t_seq ?_ | refine t_reg ?_ | refine t_nil ?_ | refine t_ret ?_ | refine k_seq_ret ?_
        | refine ae_val ?_
        | refine a_cond ?_ ?_
        | (with_reducible intro hc; with_reducible exact Bool.noConfusion hc)
        | (with_reducible intro hc; have hC := And.intro hC hc))
    (first | apply pend rs94 | apply pendN rs94); (focus (simp only [go_sem, cast0]; first | done | exact rfl)); (focus (simp only [go_sem, cast0]; first | done | exact rfl))
  have e8 : decide ((s.length : Int) < 8) = false := by simp; omega
  obtain ⟨k, hk⟩ : ∃ k, s[0]? = some k := ⟨_, List.getElem?_eq_getElem (by omega)⟩
  have h1 := h109 ((s.take 4).drop 1) (by simp; omega)
  obtain ⟨n, hn⟩ : ∃ n, numL ((s.take 4).drop 1) = n := ⟨_, rfl⟩
  have hnl : n < 256 ^ 3 := by
    have := numL_lt ((s.take 4).drop 1)
    rw [hn] at this
    have hlen : ((s.take 4).drop 1).length = 3 := by simp; omega
    rw [hlen] at this; exact this
  rw [hn] at h1
  have q1 : (4 : Int) ≤ (s.length : Int) := by omega
  by_cases hb : badK k n = true
  · have hs : nextF s = noF s := by
      unfold nextF
      simp only [hk, h8, if_false, hn, hb, if_true]
    rw [hs]
    simp only [encF, noF]
    by_cases b1 : 200 < n
    · have f1 : decide ((200 : Int) < (n : Int)) = true := by simp; omega
      (refine ppure_of_T ok94 (by simp only [List.length_cons, List.length_nil]; decide) ?_; refine t_seq ?_)
      (have hA := And.intro e8 (And.intro hk (And.intro q1 (f1))); have hP := And.intro h1 (True.intro); have hNE := True.intro; have hC := True.intro; repeat' first
          | with_reducible first | refine k_seq ?_ | refine t_seq ?_ | refine t_reg ?_ | refine t_nil ?_ | refine t_skip ?_ | refine t_ret ?_ | refine k_seq_ret ?_
          | refine ae_val ?_
          | refine ae_callS ?_
          | refine ae_gval ?_
          | refine ae_gskip ?_
          | refine a_cond ?_ ?_
          | (with_reducible intro hc; with_reducible exact Bool.noConfusion hc)
          | (with_reducible intro hc; have hC := And.intro hC hc))
      (first | apply pend rs94 | apply pendN rs94); (focus (simp only [go_sem, cast0]; first | done | exact rfl)); (focus (simp only [go_sem, cast0]; first | done | exact rfl))
    have f1 : decide ((200 : Int) < (n : Int)) = false := by simp; omega
    by_cases b2 : k.toNat = 69
    · have f2 : decide ((k.toNat : Int) = 69) = true := by simp; omega
      have f3 : decide ((0 : Int) < (n : Int)) = true := by simp [badK, b1, b2] at hb; simp; omega
      (refine ppure_of_T ok94 (by simp only [List.length_cons, List.length_nil]; decide) ?_; refine t_seq ?_)
      (have hA := And.intro e8 (And.intro hk (And.intro q1 (And.intro f1 (And.intro f2 (f3))))); have hP := And.intro h1 (True.intro); have hNE := True.intro; have hC := True.intro; repeat' first
          | with_reducible first | refine k_seq ?_ | refine t_seq ?_ | refine t_reg ?_ | refine t_nil ?_ | refine t_skip ?_ | refine t_ret ?_ | refine k_seq_ret ?_
          | refine ae_val ?_
          | refine ae_callS ?_
          | refine ae_gval ?_
          | refine ae_gskip ?_
          | refine a_cond ?_ ?_
          | (with_reducible intro hc; with_reducible exact Bool.noConfusion hc)
          | (with_reducible intro hc; have hC := And.intro hC hc))
      (first | apply pend rs94 | apply pendN rs94); (focus (simp only [go_sem, cast0]; first | done | exact rfl)); (focus (simp only [go_sem, cast0]; first | done | exact rfl))
    have f2 : decide ((k.toNat : Int) = 69) = false := by simp; omega
    have f4 : decide (¬ (k.toNat : Int) = 69) = true := by simp; omega
    have f5 : decide (¬ (k.toNat : Int) = 82) = true := by simp [badK, b1, b2] at hb; simp; omega
    (refine ppure_of_T ok94 (by simp only [List.length_cons, List.length_nil]; decide) ?_; refine t_seq ?_)
    (have hA := And.intro e8 (And.intro hk (And.intro q1 (And.intro f1 (And.intro f2 (And.intro f4 (f5)))))); have hP := And.intro h1 (True.intro); have hNE := True.intro; have hC := True.intro; repeat' first
        | with_reducible first | refine k_seq ?_ | refine t_seq ?_ | refine t_reg ?_ | refine t_nil ?_ | refine t_skip ?_ | refine t_ret ?_ | refine k_seq_ret ?_
        | refine ae_val ?_
        | refine ae_callS ?_
        | refine ae_gval ?_
        | refine a_cond ?_ ?_
        | (with_reducible intro hc; with_reducible exact Bool.noConfusion hc)
        | (with_reducible intro hc; have hC := And.intro hC hc))
    (first | apply pend rs94 | apply pendN rs94); (focus (simp only [go_sem, cast0]; first | done | exact rfl)); (focus (simp only [go_sem, cast0]; first | done | exact rfl))
  have hbf : badK k n = false := by simpa using hb
  simp only [badK, Bool.or_eq_false_iff, decide_eq_false_iff_not] at hbf
  obtain ⟨⟨b1, b2⟩, b3⟩ := hbf
  have f1 : decide ((200 : Int) < (n : Int)) = false := by simp; omega
  have w1 : IntKind.i64.wrap ((4 : Int) + (n : Int)) = ((n + 4 : Nat) : Int) := by rw [IntKind.wrap_i64]; omega
  have w2 : IntKind.i64.wrap (((n + 4 : Nat) : Int) + 4) = ((n + 8 : Nat) : Int) := by rw [IntKind.wrap_i64]; omega
  have kq : k.toNat = 69 ∨ k.toNat = 82 := by
    by_cases h : k.toNat = 69
    · exact .inl h
    · by_cases h' : k.toNat = 82
      · exact .inr h'
      · simp [h, h'] at b3
  have hkt : k.toNat < 128 := by omega
  have fk : ∃ fs, (decide ((k.toNat : Int) = 69) = fs ∧ decide (¬ (k.toNat : Int) = 69) = !fs ∧ (fs = true → n = 0) ∧ (fs = false → decide (¬ (k.toNat : Int) = 82) = false)) := by
    rcases kq with h | h
    · refine ⟨true, by simp; omega, by simp; omega, fun _ => ?_, nofun⟩
      simp [h] at b2; exact b2
    · exact ⟨false, by simp; omega, by simp; omega, nofun, fun _ => by simp; omega⟩
  obtain ⟨fs, g1, g2, g3, g4⟩ := fk
  by_cases hsz : s.length < n + 8
  · have hs : nextF s = noF s := by
      unfold nextF
      simp only [hk, h8, if_false, hn, hb, hsz, if_true]
      rfl
    rw [hs]
    simp only [encF, noF]
    have f6 : decide ((s.length : Int) < ((n + 8 : Nat) : Int)) = true := by simp; omega
    cases fs with
    | true =>
      have f7 : decide ((0 : Int) < (n : Int)) = false := by have := g3 rfl; simp; omega
      (refine ppure_of_T ok94 (by simp only [List.length_cons, List.length_nil]; decide) ?_; refine t_seq ?_)
      (have hA := And.intro e8 (And.intro hk (And.intro q1 (And.intro f1 (And.intro f6 (And.intro f7 (And.intro g1 (And.intro g2 (And.intro w1 (w2))))))))); have hP := And.intro h1 (True.intro); have hNE := True.intro; have hC := True.intro; repeat' first
          | with_reducible first | refine k_seq ?_ | refine t_seq ?_ | refine t_reg ?_ | refine t_nil ?_ | refine t_skip ?_ | refine t_ret ?_ | refine k_seq_ret ?_
          | refine ae_val ?_
          | refine ae_callS ?_
          | refine ae_gval ?_
          | refine a_cond ?_ ?_
          | (with_reducible intro hc; with_reducible exact Bool.noConfusion hc)
          | (with_reducible intro hc; have hC := And.intro hC hc))
      (first | apply pend rs94 | apply pendN rs94); (focus (simp only [go_sem, cast0]; first | done | exact rfl)); (focus (simp only [go_sem, cast0]; first | done | exact rfl))
    | false =>
      have f7 := g4 rfl
      (refine ppure_of_T ok94 (by simp only [List.length_cons, List.length_nil]; decide) ?_; refine t_seq ?_)
      (have hA := And.intro e8 (And.intro hk (And.intro q1 (And.intro f1 (And.intro f6 (And.intro f7 (And.intro g1 (And.intro g2 (And.intro w1 (w2))))))))); have hP := And.intro h1 (True.intro); have hNE := True.intro; have hC := True.intro; repeat' first
          | with_reducible first | refine k_seq ?_ | refine t_seq ?_ | refine t_reg ?_ | refine t_nil ?_ | refine t_skip ?_ | refine t_ret ?_ | refine k_seq_ret ?_
          | refine ae_val ?_
          | refine ae_callS ?_
          | refine ae_gval ?_
          | refine a_cond ?_ ?_
          | (with_reducible intro hc; with_reducible exact Bool.noConfusion hc)
          | (with_reducible intro hc; have hC := And.intro hC hc))
      (first | apply pend rs94 | apply pendN rs94); (focus (simp only [go_sem, cast0]; first | done | exact rfl)); (focus (simp only [go_sem, cast0]; first | done | exact rfl))
  · have hs : nextF s = ⟨(s.take (n + 4)).drop 4, k.toNat, s.drop (n + 8), s.take (n + 8) == frmF k ((s.take (n + 4)).drop 4)⟩ := by
      unfold nextF
      simp only [hk, h8, if_false, hn, hb, hsz]
      rfl
    rw [hs]
    simp only [encF]
    have f6 : decide ((s.length : Int) < ((n + 8 : Nat) : Int)) = false := by simp; omega
    have h2 := p86 k ((s.take (n + 4)).drop 4) hkt (by simp; omega)
    have q2 : ((n + 4 : Nat) : Int) ≤ (s.length : Int) := by omega
    have q3 : (4 : Int) ≤ ((n + 4 : Nat) : Int) := by omega
    have q4 : ((n + 8 : Nat) : Int) ≤ (s.length : Int) := by omega
    cases fs with
    | true =>
      have f7 : decide ((0 : Int) < (n : Int)) = false := by have := g3 rfl; simp; omega
      (refine ppure_of_T ok94 (by simp only [List.length_cons, List.length_nil]; decide) ?_; refine t_seq ?_)
      (have hA := And.intro e8 (And.intro hk (And.intro q1 (And.intro q2 (And.intro q3 (And.intro q4 (And.intro f1 (And.intro f6 (And.intro f7 (And.intro g1 (And.intro g2 (And.intro w1 (w2)))))))))))); have hP := And.intro h1 (And.intro h2 (True.intro)); have hNE := True.intro; have hC := True.intro; repeat' first
          | ((with_reducible apply te_drwA); (focus (simp (maxDischargeDepth := 8) only [effFlA, List.map_cons, List.map_nil]; exact rfl)); (focus decide +kernel))
          | with_reducible first | refine k_seq ?_ | refine t_seq ?_ | refine t_reg ?_ | refine t_nil ?_ | refine t_skip ?_ | refine t_ret ?_ | refine m_nil ?_
          | refine ae_val ?_
          | refine ae_callS ?_
          | refine ae_gval ?_
          | refine be_val ?_
          | refine be_callS ?_
          | refine a_cond ?_ ?_
          | (with_reducible intro hc; with_reducible exact Bool.noConfusion hc)
          | (with_reducible intro hc; have hC := And.intro hC hc))
      (first | apply pend rs94 | apply pendN rs94); (focus (simp only [go_sem]; first | done | exact rfl)); (focus (simp only [go_sem]; first | done | exact rfl))
    | false =>
      have f7 := g4 rfl
      (refine ppure_of_T ok94 (by simp only [List.length_cons, List.length_nil]; decide) ?_; refine t_seq ?_)
      (have hA := And.intro e8 (And.intro hk (And.intro q1 (And.intro q2 (And.intro q3 (And.intro q4 (And.intro f1 (And.intro f6 (And.intro f7 (And.intro g1 (And.intro g2 (And.intro w1 (w2)))))))))))); have hP := And.intro h1 (And.intro h2 (True.intro)); have hNE := True.intro; have hC := True.intro; repeat' first
          | ((with_reducible apply te_drwA); (focus (simp (maxDischargeDepth := 8) only [effFlA, List.map_cons, List.map_nil]; exact rfl)); (focus decide +kernel))
          | with_reducible first | refine k_seq ?_ | refine t_seq ?_ | refine t_reg ?_ | refine t_nil ?_ | refine t_skip ?_ | refine t_ret ?_ | refine m_nil ?_
          | refine ae_val ?_
          | refine ae_callS ?_
          | refine ae_gval ?_
          | refine be_val ?_
          | refine be_callS ?_
          | refine a_cond ?_ ?_
          | (with_reducible intro hc; with_reducible exact Bool.noConfusion hc)
          | (with_reducible intro hc; have hC := And.intro hC hc))
      (first | apply pend rs94 | apply pendN rs94); (focus (simp only [go_sem]; first | done | exact rfl)); (focus (simp only [go_sem]; first | done | exact rfl))
end Go.Proofs.Ythdgdngdfijfhaa
namespace Go.Proofs.Ythdgdngdfijfhaa
open Go.RowKit Go.Proofs
set_option linter.unusedVariables false
set_option linter.unusedSimpArgs false
attribute [local irreducible] PPure CallN Tops TopsDm T
def mkSq (rs : List (List UInt8)) (e : Bool) : Un := ⟨0, 0, rs, [], [], e, 0⟩
def openL : Nat → List UInt8 → List (List UInt8) → (Un × Nat) × Int
  | 0, _, _ => ((zeU, 0), 0)
  | f + 1, s, rs =>
    if (nextF s).ok = false then ((mkSq rs false, s.length), 0)
    else if (nextF s).kind = 69 then ((mkSq rs true, (nextF s).rest.length), 0)
    else if rs.length = 60 then ((zeU, 0), 8)
    else openL f (nextF s).rest (rs ++ [(nextF s).rcd])
theorem nextF_rest (s : List UInt8) : (nextF s).rest.length ≤ s.length := by
  unfold nextF
  split
  · exact Nat.le_refl _
  · simp only
    split
    · exact Nat.le_refl _
    split
    · exact Nat.le_refl _
    split
    · exact Nat.le_refl _
    · simp
def OpI (lu l2 : Lab) (rs : List (List UInt8)) (v : PV) (H0 : Hp) : Prop :=
  H0 lu = some (.row true 7 [.agg [.int .i64 0, .int .i64 0, v, .list .nil [], .str [], .bool false, .int .i64 0]]) ∧ H0 l2 = some (.row true 7 [zU]) ∧ (lu = l2) = False ∧ (l2 = lu) = False ∧
  ((rs = [] ∧ v = .list .nil []) ∨ ∃ lr, v = .arr lr 1 0 rs.length ∧ H0 lr = some (.row true 1 (rs.map encS)) ∧ (lr = lu) = False ∧ (lu = lr) = False ∧ (lr = l2) = False ∧ (l2 = lr) = False)
attribute [local go_sem] cast0 in
set_option maxHeartbeats 4000000 in
theorem p60 (h94 : ∀ s : List UInt8, s.length ≤ 30000 → PPure Try.prog 94 [.str s] (encF (nextF s))) (s0 : List UInt8) (hl : s0.length ≤ 30000) :
    PPure Try.prog 60 [.str s0] (.tup [encU (openL 62 s0 []).1.1, .int .i64 ((openL 62 s0 []).1.2 : Int), .int .i64 (openL 62 s0 []).2]) := by
  obtain ⟨R, hR⟩ : ∃ R, openL 62 s0 [] = R := ⟨_, rfl⟩
  rw [hR]
  simp only [encU]
  (refine ppure_of_T ok60 (by simp only [List.length_cons, List.length_nil]; decide) ?_; refine t_seq ?_)
  (have hA := True.intro; have hP := True.intro; have hNE := True.intro; have hC := True.intro; repeat' first
      | with_reducible first | refine k_seq ?_ | refine t_seq ?_ | refine t_reg ?_ | refine t_nil ?_ | refine t_block ?_
      | refine ae_val ?_
      | (refine ae_alloc ?_; intro la ha hn1; have hNE := And.intro hNE hn1)
      | refine ae_store ?_)
  rename_i l2 a2 n2 x2
  have hN0 := hNE
  obtain ⟨lu, h5⟩ : ∃ l, l = la := ⟨la, rfl⟩
  subst h5
  refine t_loopE (fun (k0 : Nat) (E0 : Nat → PV) (H0 : Hp) => ∃ (s : List UInt8) (rs : List (List UInt8)) (v : PV), rs.length + k0 = 60 ∧ s.length ≤ 30000 ∧ openL (62 - rs.length) s rs = R ∧ OpI lu l2 rs v H0 ∧ E0 0 = .str s) (60) ⟨s0, [], .list .nil [], (by first | omega | rfl | assumption | (simp only [go_sem, cast0]; first | done | rfl | assumption | omega)), (by first | omega | rfl | assumption | (simp only [go_sem, cast0]; first | done | rfl | assumption | omega)), ?_, ?_, (by simp only [go_sem, cast0]; first | done | rfl)⟩ ?_
  · exact hR
  · refine ⟨?_, ?_, ?_, ?_, .inl ⟨rfl, rfl⟩⟩
    · simp (maxDischargeDepth := 8) only [go_sem, hN0]
    · simp (maxDischargeDepth := 8) only [go_sem, hN0, zU]
    · simp (maxDischargeDepth := 8) only [go_sem, hN0]
    · simp (maxDischargeDepth := 8) only [go_sem, hN0]
  rintro k0 E0 H0 hfr0 ⟨s, rs, v, hk, hsl, hr, hI, h0_0⟩
  have e0_2 := hfr0 2 rfl; have e0_5 := hfr0 5 rfl
  simp only [go_sem, cast0] at e0_2 e0_5
  clear hfr0
  obtain ⟨q1, q2, q3, q4, q5⟩ := hI
  simp only [zU] at q2
  have hp := h94 s hsl
  have hrl := nextF_rest s
  obtain ⟨f, hf⟩ : ∃ f, 62 - rs.length = f + 1 := ⟨61 - rs.length, by omega⟩
  rw [hf, openL] at hr
  obtain ⟨x, hx⟩ : ∃ x, nextF s = x := ⟨_, rfl⟩
  rw [hx] at hp hr hrl
  simp only [encF] at hp
  cases hok : x.ok with
  | false =>
    rw [if_pos hok] at hr
    simp only [hok] at hp
    rcases q5 with ⟨rfl, rfl⟩ | ⟨lr, rfl, q6, q7, q8, q9, q10⟩
    · (have hA := And.intro e0_2 (And.intro e0_5 (And.intro h0_0 (And.intro q1 (And.intro q2 (And.intro q3 (q4)))))); have hP := And.intro hp (True.intro); have hNE := True.intro; have hC := True.intro; repeat' first
          | with_reducible first | refine k_seq ?_ | refine t_seq ?_ | refine t_reg ?_ | refine t_nil ?_ | refine t_skip ?_ | refine t_ret ?_ | refine t_exit ?_ | refine k_seq_exit ?_ | refine k_blk_exit ?_ | refine k_blk_other (by decide) ?_ | refine k_invE_exit ?_ | refine t_block ?_
          | refine ae_val ?_
          | refine ae_callS ?_
          | refine ae_store ?_
          | refine a_cond ?_ ?_
          | (with_reducible intro hc; with_reducible exact Bool.noConfusion hc)
          | (with_reducible intro hc; have hC := And.intro hC hc))
      (first | apply pend rs60 | apply pendN rs60); (focus (simp (maxDischargeDepth := 8) only [hNE, go_sem, e0_2, e0_5, h0_0, q1, q2, q3, q4, ← hr, mkSq]; first | done | exact rfl)); (focus (simp (maxDischargeDepth := 8) only [hNE, go_sem, e0_2, e0_5, h0_0, q1, q2, q3, q4, ← hr, mkSq]; first | done | exact rfl))
    · have t1 : List.take rs.length (rs.map encS) = rs.map encS := List.take_of_length_le (by simp)
      (have hA := And.intro e0_2 (And.intro e0_5 (And.intro h0_0 (And.intro q1 (And.intro q2 (And.intro q3 (And.intro q4 (And.intro q6 (And.intro q7 (And.intro q8 (And.intro q9 (q10))))))))))); have hP := And.intro hp (True.intro); have hNE := True.intro; have hC := True.intro; repeat' first
          | with_reducible first | refine k_seq ?_ | refine t_seq ?_ | refine t_reg ?_ | refine t_nil ?_ | refine t_skip ?_ | refine t_ret ?_ | refine t_exit ?_ | refine k_seq_exit ?_ | refine k_blk_exit ?_ | refine k_blk_other (by decide) ?_ | refine k_invE_exit ?_ | refine t_block ?_
          | refine ae_val ?_
          | refine ae_callS ?_
          | refine ae_store ?_
          | refine a_cond ?_ ?_
          | (with_reducible intro hc; with_reducible exact Bool.noConfusion hc)
          | (with_reducible intro hc; have hC := And.intro hC hc))
      (first | apply pend rs60 | apply pendN rs60); (focus (simp (maxDischargeDepth := 8) only [hNE, go_sem, e0_2, e0_5, h0_0, q1, q2, q3, q4, q6, q7, q8, q9, q10, t1, mapM_closed7, mapM_closed6, mapM_closed5, ← hr, mkSq]; first | done | exact rfl)); (focus (simp (maxDischargeDepth := 8) only [hNE, go_sem, e0_2, e0_5, h0_0, q1, q2, q3, q4, q6, q7, q8, q9, q10, t1, mapM_closed7, mapM_closed6, mapM_closed5, ← hr, mkSq]; first | done | exact rfl))
  | true =>
    rw [if_neg (by rw [hok]; simp)] at hr
    simp only [hok] at hp
    by_cases hkd : x.kind = 69
    · rw [if_pos hkd] at hr
      have e1 : decide ((x.kind : Int) = 69) = true := by simp; omega
      rcases q5 with ⟨rfl, rfl⟩ | ⟨lr, rfl, q6, q7, q8, q9, q10⟩
      · (have hA := And.intro e0_2 (And.intro e0_5 (And.intro h0_0 (And.intro q1 (And.intro q2 (And.intro q3 (And.intro q4 (e1))))))); have hP := And.intro hp (True.intro); have hNE := True.intro; have hC := True.intro; repeat' first
            | with_reducible first | refine k_seq ?_ | refine t_seq ?_ | refine t_reg ?_ | refine t_nil ?_ | refine t_skip ?_ | refine t_ret ?_ | refine t_exit ?_ | refine k_seq_exit ?_ | refine k_blk_exit ?_ | refine k_blk_other (by decide) ?_ | refine k_invE_exit ?_ | refine t_block ?_
            | refine ae_val ?_
            | refine ae_callS ?_
            | refine ae_store ?_
            | refine a_cond ?_ ?_
            | (with_reducible intro hc; with_reducible exact Bool.noConfusion hc)
            | (with_reducible intro hc; have hC := And.intro hC hc))
        (first | apply pend rs60 | apply pendN rs60); (focus (simp (maxDischargeDepth := 8) only [hNE, go_sem, e0_2, e0_5, h0_0, q1, q2, q3, q4, ← hr, mkSq]; first | done | exact rfl)); (focus (simp (maxDischargeDepth := 8) only [hNE, go_sem, e0_2, e0_5, h0_0, q1, q2, q3, q4, ← hr, mkSq]; first | done | exact rfl))
      · have t1 : List.take rs.length (rs.map encS) = rs.map encS := List.take_of_length_le (by simp)
        (have hA := And.intro e0_2 (And.intro e0_5 (And.intro h0_0 (And.intro q1 (And.intro q2 (And.intro q3 (And.intro q4 (And.intro q6 (And.intro q7 (And.intro q8 (And.intro q9 (And.intro q10 (e1)))))))))))); have hP := And.intro hp (True.intro); have hNE := True.intro; have hC := True.intro; repeat' first
            | with_reducible first | refine k_seq ?_ | refine t_seq ?_ | refine t_reg ?_ | refine t_nil ?_ | refine t_skip ?_ | refine t_ret ?_ | refine t_exit ?_ | refine k_seq_exit ?_ | refine k_blk_exit ?_ | refine k_blk_other (by decide) ?_ | refine k_invE_exit ?_ | refine t_block ?_
            | refine ae_val ?_
            | refine ae_callS ?_
            | refine ae_store ?_
            | refine a_cond ?_ ?_
            | (with_reducible intro hc; with_reducible exact Bool.noConfusion hc)
            | (with_reducible intro hc; have hC := And.intro hC hc))
        (first | apply pend rs60 | apply pendN rs60); (focus (simp (maxDischargeDepth := 8) only [hNE, go_sem, e0_2, e0_5, h0_0, q1, q2, q3, q4, q6, q7, q8, q9, q10, t1, mapM_closed7, mapM_closed6, mapM_closed5, ← hr, mkSq]; first | done | exact rfl)); (focus (simp (maxDischargeDepth := 8) only [hNE, go_sem, e0_2, e0_5, h0_0, q1, q2, q3, q4, q6, q7, q8, q9, q10, t1, mapM_closed7, mapM_closed6, mapM_closed5, ← hr, mkSq]; first | done | exact rfl))
    · rw [if_neg hkd] at hr
      have e1 : decide ((x.kind : Int) = 69) = false := by simp; omega
      by_cases h60 : rs.length = 60
      · rw [if_pos h60] at hr
        have e2 : decide ((rs.length : Int) = 60) = true := by simp; omega
        rcases q5 with ⟨rfl, rfl⟩ | ⟨lr, rfl, q6, q7, q8, q9, q10⟩
        · simp at h60
        · (have hA := And.intro e0_2 (And.intro e0_5 (And.intro h0_0 (And.intro q1 (And.intro q2 (And.intro q3 (And.intro q4 (And.intro q6 (And.intro q7 (And.intro q8 (And.intro q9 (And.intro q10 (And.intro e1 (e2))))))))))))); have hP := And.intro hp (True.intro); have hNE := True.intro; have hC := True.intro; repeat' first
              | with_reducible first | refine k_seq ?_ | refine t_seq ?_ | refine t_reg ?_ | refine t_nil ?_ | refine t_skip ?_ | refine t_ret ?_ | refine k_seq_ret ?_ | refine k_blk_ret ?_ | refine k_invE_ret ?_ | refine t_block ?_
              | refine ae_val ?_
              | refine ae_callS ?_
              | refine ae_store ?_
              | refine a_cond ?_ ?_
              | (with_reducible intro hc; with_reducible exact Bool.noConfusion hc)
              | (with_reducible intro hc; have hC := And.intro hC hc))
          (first | apply pend rs60 | apply pendN rs60); (focus (simp (maxDischargeDepth := 8) only [hNE, go_sem, e0_2, e0_5, h0_0, q1, q2, q3, q4, q6, q7, q8, q9, q10, ← hr, zeU]; first | done | exact rfl)); (focus (simp (maxDischargeDepth := 8) only [hNE, go_sem, e0_2, e0_5, h0_0, q1, q2, q3, q4, q6, q7, q8, q9, q10, ← hr, zeU]; first | done | exact rfl))
      · rw [if_neg h60] at hr
        have e2 : decide ((rs.length : Int) = 60) = false := by simp; omega
        have hf2 : 62 - (rs ++ [x.rcd]).length = f := by simp; omega
        rcases q5 with ⟨rfl, rfl⟩ | ⟨lr, rfl, q6, q7, q8, q9, q10⟩
        · (have hA := And.intro e0_2 (And.intro e0_5 (And.intro h0_0 (And.intro q1 (And.intro q2 (And.intro q3 (And.intro q4 (e1))))))); have hP := And.intro hp (True.intro); have hNE := True.intro; have hC := True.intro; repeat' first
              | with_reducible first | refine k_seq ?_ | refine t_seq ?_ | refine t_reg ?_ | refine t_nil ?_ | refine t_skip ?_ | refine k_blk ?_ | refine t_block ?_
              | refine ae_val ?_
              | refine ae_callS ?_
              | ((with_reducible apply te_appendL); (with_reducible exact app_22; with_reducible exact c_9); (focus (simp (maxDischargeDepth := 8) only [go_sem, hNE, hA]; first | done | exact rfl)); (focus (simp (maxDischargeDepth := 8) only [go_sem, hNE, hA]; first | done | exact rfl)); exact rfl; (focus (first | exact rfl | (simp (maxDischargeDepth := 8) only [go_sem, hNE, hA]; done))); (focus (simp (maxDischargeDepth := 8) only [go_sem, hNE, hA]; done)); (focus (simp (maxDischargeDepth := 8) only [go_sem, hNE, hA]; done)); (focus (simp (maxDischargeDepth := 8) only [go_sem, hNE, hA, roomB, List.length_take, List.length_append]; first | done | omega)); (intro la ha hn1; have hNE := And.intro hNE hn1))
              | refine ae_store ?_
              | refine a_cond ?_ ?_
              | (with_reducible intro hc; with_reducible exact Bool.noConfusion hc)
              | (with_reducible intro hc; have hC := And.intro hC hc))
          have hN1 := hNE
          have el0 : ([] : List (List UInt8)).length = 0 := rfl
          have el1 : (([] : List (List UInt8)) ++ [x.rcd]).length = 1 := rfl
          refine k_invE (k0 - 1) (by omega) ⟨x.rest, [] ++ [x.rcd], .arr la 1 0 (0 + 1), (by omega), (by omega), ?_, ?_, (by simp only [go_sem, e0_2, e0_5, h0_0, cast0]; first | done | rfl)⟩
          · rw [hf2]; exact hr
          · refine ⟨?_, ?_, q3, q4, .inr ⟨la, by simp, ?_, ?_, ?_, ?_, ?_⟩⟩
            · simp (maxDischargeDepth := 8) only [go_sem, hN1, q1, q2, q3, q4, setC, splice]
            · simp (maxDischargeDepth := 8) only [go_sem, hN1, q1, q2, q3, q4, zU]
            · simp (maxDischargeDepth := 8) only [go_sem, hN1, q1, q2, q3, q4, encS]
            · simp (maxDischargeDepth := 8) only [go_sem, hN1, q1, q2, q3, q4]
            · simp (maxDischargeDepth := 8) only [go_sem, hN1, q1, q2, q3, q4]
            · simp (maxDischargeDepth := 8) only [go_sem, hN1, q1, q2, q3, q4]
            · simp (maxDischargeDepth := 8) only [go_sem, hN1, q1, q2, q3, q4]
        · have t1 : List.take rs.length (rs.map encS) = rs.map encS := List.take_of_length_le (by simp)
          (have hA := And.intro e0_2 (And.intro e0_5 (And.intro h0_0 (And.intro q1 (And.intro q2 (And.intro q3 (And.intro q4 (And.intro q6 (And.intro q7 (And.intro q8 (And.intro q9 (And.intro q10 (And.intro t1 (And.intro e1 (e2)))))))))))))); have hP := And.intro hp (True.intro); have hNE := True.intro; have hC := True.intro; repeat' first
              | with_reducible first | refine k_seq ?_ | refine t_seq ?_ | refine t_reg ?_ | refine t_nil ?_ | refine t_skip ?_ | refine k_blk ?_ | refine t_block ?_
              | refine ae_val ?_
              | refine ae_callS ?_
              | refine ae_store ?_
              | ((with_reducible apply te_appendB); (with_reducible exact app_22; with_reducible exact c_9); (focus (simp (maxDischargeDepth := 8) only [go_sem, hNE, hA]; first | done | exact rfl)); (focus (simp (maxDischargeDepth := 8) only [go_sem, hNE, hA]; first | done | exact rfl)); (focus (simp (maxDischargeDepth := 8) only [go_sem, hNE, hA, roomB, List.length_take, List.length_append]; first | done | omega)); (focus (simp (maxDischargeDepth := 8) only [go_sem, hNE, hA]; first | done | exact rfl)); (focus (simp (maxDischargeDepth := 8) only [go_sem, hNE, hA]; done)); (focus (simp (maxDischargeDepth := 8) only [go_sem, hNE, hA, roomB, List.length_take, List.length_append]; first | done | omega)); (intro la ha hn1; have hNE := And.intro hNE hn1))
              | refine a_cond ?_ ?_
              | (with_reducible intro hc; with_reducible exact Bool.noConfusion hc)
              | (with_reducible intro hc; have hC := And.intro hC hc))
          have hN1 := hNE
          have el1 : (rs ++ [x.rcd]).length = rs.length + 1 := by simp
          refine k_invE (k0 - 1) (by omega) ⟨x.rest, rs ++ [x.rcd], .arr la 1 0 (rs.length + 1), (by omega), (by omega), ?_, ?_, (by simp only [go_sem, e0_2, e0_5, h0_0, cast0]; first | done | rfl)⟩
          · rw [hf2]; exact hr
          · refine ⟨?_, ?_, q3, q4, .inr ⟨la, by simp, ?_, ?_, ?_, ?_, ?_⟩⟩
            · simp (maxDischargeDepth := 8) only [go_sem, hN1, q1, q2, q3, q4, q6, q7, q8, q9, q10, setC, splice]
            · simp (maxDischargeDepth := 8) only [go_sem, hN1, q1, q2, q3, q4, q6, q7, q8, q9, q10, zU]
            · simp (maxDischargeDepth := 8) only [go_sem, hN1, q1, q2, q3, q4, q6, q7, q8, q9, q10, t1, encS, List.map_append]
            · simp (maxDischargeDepth := 8) only [go_sem, hN1, q1, q2, q3, q4, q6, q7, q8, q9, q10]
            · simp (maxDischargeDepth := 8) only [go_sem, hN1, q1, q2, q3, q4, q6, q7, q8, q9, q10]
            · simp (maxDischargeDepth := 8) only [go_sem, hN1, q1, q2, q3, q4, q6, q7, q8, q9, q10]
            · simp (maxDischargeDepth := 8) only [go_sem, hN1, q1, q2, q3, q4, q6, q7, q8, q9, q10]
end Go.Proofs.Ythdgdngdfijfhaa
namespace Go.Proofs.Ythdgdngdfijfhaa
open Go.RowKit Go.Proofs Go.Shelf
set_option linter.unusedVariables false
set_option linter.unusedSimpArgs false
def RowV (e : TypeId) (sv : Value) (bs : List UInt8) (w : World) : Prop :=
  (sv = .slice none 0 0 ∧ bs = []) ∨
  ∃ g cap cur, bs ≠ [] ∧ sv = .slice (some ⟨g, 0, none⟩) bs.length cap ∧ w.heap[g]? = some (.cells cur e (0, 0)) ∧ bs.length ≤ cap ∧ cap ≤ maxLen ∧ cur.size = cap ∧ cur.toList.take bs.length = Lib.byteCells bs
theorem setCell_heap {w : World} {b : Nat} {cs : Array Value} {t : TypeId} {fr : Nat × Nat} (i : Nat) (v : Value) (h : w.heap[b]? = some (.cells cs t fr)) : (w.setCell ⟨b, i, none⟩ v).heap[b]? = some (.cells (cs.setIfInBounds i v) t fr) := by
  simp [World.setCell, Array.getElem?_modify, h]
theorem fr_setCell {w : World} {b : Nat} {cs : Array Value} {t : TypeId} {fr : Nat × Nat} (i : Nat) (v : Value) (h : w.heap[b]? = some (.cells cs t fr)) : Fr w (fun x => x = b) (w.setCell ⟨b, i, none⟩ v) := by
  refine ⟨rfl, rfl, rfl, by simp [World.setCell], fun x hx hn => Below.heap_setCell _ _ _ _ hn, fun x c t' f' e => ?_⟩
  by_cases hx : x = b
  · subst hx
    rw [h] at e
    obtain ⟨rfl, rfl, rfl⟩ : cs = c ∧ t = t' ∧ fr = f' := by simpa using e
    exact ⟨_, _, setCell_heap i v h, by simp⟩
  · exact ⟨c, f', (Below.heap_setCell _ _ _ _ hx).trans e, rfl⟩
theorem fr_freeze {w : World} {g n : Nat} : Fr w (fun x => x = g) (w.freeze ⟨g, 0, none⟩ n) := by
  unfold World.freeze
  split
  · exact Fr.refl _ _
  · refine ⟨rfl, rfl, rfl, by simp, fun x hx hn => ?_, fun x c t' f' e => ?_⟩
    · simp only [Array.getElem?_modify]
      rw [if_neg (fun h => hn h.symm)]
    · by_cases hx : x = g
      · subst hx
        obtain ⟨lo, hi⟩ := f'
        exact ⟨c, if lo == hi then (0, 0 + n) else (min lo 0, max hi (0 + n)), by simp only [Array.getElem?_modify, if_true, e, Option.map_some], rfl⟩
      · refine ⟨c, f', ?_, rfl⟩
        simp only [Array.getElem?_modify]
        rw [if_neg (fun h => hx h.symm)]
        exact e
section
variable {P : Program} {w : World}
theorem run_append_buf (t u ty e : TypeId) (i : TypeInfo) (ht : P.underlying t = some (.slice e)) (hu : P.underlying u = some .string) (hi : P.info? e = some i) (hz : i.zero = some (.int .u8 0)) (hsize : i.size = 1) (hby : i.bytes = 1)
    (v : Value) (bs : List UInt8) (hv : RowV e v bs w) (s : List UInt8) (h0 : s ≠ []) (hbytes : bs.length + s.length ≤ 140737488355328) :
    ∃ g' cap' cur' w', (Builtin.append_ #[t, u] ty #[v, .string ⟨s.toArray⟩]).run P w = .ok (.slice (some ⟨g', 0, none⟩) (bs ++ s).length cap') w' ∧ w'.heap[g']? = some (.cells cur' e (0, 0)) ∧ (bs ++ s).length ≤ cap' ∧ cap' ≤ maxLen ∧ cur'.size = cap' ∧
      cur'.toList.take (bs ++ s).length = Lib.byteCells (bs ++ s) ∧ (v.ownBlock = some g' ∨ w.heap.size = g') ∧ Fr w (fun x => v.ownBlock = some x) w' := by
  have hm : maxLen = 9223372036854775807 ∨ True := .inr trivial
  have hsz : (ByteArray.mk s.toArray).size = s.length := by simp [ByteArray.size]
  have hs0 : 0 < s.length := List.length_pos_iff.2 h0
  have h63 : bs.length + s.length ≤ maxLen := by unfold maxLen; omega
  have hsc : Lib.strCells ⟨s.toArray⟩ = Lib.byteCells s := rfl
  have hlen : (Lib.byteCells (bs ++ s)).length = (bs ++ s).length := Lib.byteCells_length _
  have htk : ∀ (r : List Value), (Lib.byteCells bs ++ Lib.byteCells s ++ r).take (bs ++ s).length = Lib.byteCells (bs ++ s) := by
    intro r
    rw [← Lib.byteCells_append, ← hlen]
    exact List.take_left
  have hap : (bs ++ s).length = bs.length + s.length := List.length_append
  rcases hv with ⟨rfl, rfl⟩ | ⟨g, cap, cur, hb0, rfl, hg, hnc, hcm, hcs, htake⟩
  · have hr := run_append_nil_string (P := P) w t u ty e i (.int .u8 0) ht hu hi hz ⟨s.toArray⟩ (by omega) (by omega) (by rw [hby]; omega)
    have e1 : ((ByteArray.mk s.toArray).data.map fun b => Value.int .u8 b.toNat) = (Lib.byteCells s).toArray := by
      apply Array.ext'
      simp [Lib.byteCells]
    rw [e1, hsz] at hr
    have hge := grownCap_ge w s.length 0 e
    have hcm : grownCap w s.length 0 e ≤ maxLen := grownCap_le_maxLen w s.length 0 e (by simpa using h63)
    refine ⟨_, _, _, _, hr, heap_alloc_new w.drew _, hge, hcm, ?_, ?_, .inr rfl, ?_⟩
    · have hz1 : (Value.int IntKind.u8 0).cells.size = 1 := rfl
      simp only [Array.size_append, List.size_toArray, size_zeroCells, hz1, Lib.byteCells_length]
      omega
    · have := htk (Builtin.zeroCells (Value.int .u8 0).cells (grownCap w s.length 0 e - s.length)).toList
      simp [Lib.byteCells]
    · exact (Fr.drew w _).trans (Fr.alloc w.drew _ _) (fun _ _ h => h)
  · by_cases hroom : bs.length + s.length ≤ cap
    · have hr := Lib.run_append_room_string (P := P) w t u ty e i ht hu hi hsize g bs.length cap cur hg ⟨s.toArray⟩ (by omega) (by omega)
      rw [hsz, hsc, ← hap] at hr
      have hl : (cur.toList.take bs.length ++ Lib.byteCells s ++ cur.toList.drop (bs ++ s).length).toArray.size = cur.size := by
        simp only [List.size_toArray, List.length_append, List.length_take, List.length_drop, Array.length_toList, Lib.byteCells_length]
        omega
      obtain ⟨h1, h2⟩ := setRow_heap' (w := w) hg hl
      refine ⟨_, _, _, _, hr, h2, by omega, hcm, by rw [hl, hcs], ?_, .inl rfl, h1.weaken (fun x _ h => by simp [Value.ownBlock, h])⟩
      rw [htake]
      exact htk _
    · have hrow : w.ownsRow 0 e 1 (.slice (some ⟨g, 0, none⟩) bs.length cap) bs.length (Lib.byteCells bs) := ⟨by simp [Lib.byteCells], .inr ⟨g, cap, cur, rfl, Nat.zero_le _, hg, hnc, hcm, by simpa using hcs, by simpa using htake⟩⟩
      have holds : ∀ j u, (Lib.byteCells bs)[j]? = some u → w.cell? ((⟨g, 0, none⟩ : Addr).add j) = some u := hrow.cells (g := g) rfl
      have hr := Lib.run_append_grow_string (P := P) w t u ty e i (.int .u8 0) ht hu hi hz ⟨g, 0, none⟩ bs.length cap (Lib.byteCells bs) (by rw [hsize]; simp [Lib.byteCells]) holds ⟨s.toArray⟩ (by omega) (by omega) (by rw [hby]; exact growslice_fits (by omega) (by omega))
      rw [hsz, hsc, ← hap] at hr
      have hge := grownCap_ge w (bs ++ s).length cap e
      have hcm2 : grownCap w (bs ++ s).length cap e ≤ maxLen := grownCap_le_maxLen w (bs ++ s).length cap e (by omega)
      refine ⟨_, _, _, _, hr, heap_alloc_new w.drew _, hge, hcm2, ?_, ?_, .inr rfl, ?_⟩
      · have hz1 : (Value.int IntKind.u8 0).cells.size = 1 := rfl
        simp only [Array.size_append, List.size_toArray, size_zeroCells, hz1, Lib.byteCells_length]
        omega
      · have := htk (Builtin.zeroCells (Value.int .u8 0).cells (grownCap w (bs ++ s).length cap e - (bs ++ s).length)).toList
        simpa only [Array.toList_append] using this
      · exact (Fr.drew w _).trans (Fr.alloc w.drew _ _) (fun _ _ h => h)
end
end Go.Proofs.Ythdgdngdfijfhaa
namespace Go.Proofs
open Go.Shelf Go.RowKit Go.Proofs.Ythdgdngdfijfhaa
variable {P : Program} {ρ : Ren}
set_option linter.unusedVariables false
theorem Try.run_append_buf_wp {ops : Array Oper} {rest : List Oper} {o : Oper} {a : Act} {w : World} {Q : Exit → Act → World → Prop} (hgd : o.guard = none) (sl x : Operand) (t u : TypeId)
    (ho : o.op = .call { callee := .builtin .append, args := #[sl, x], argTypes := #[t, u] })
    (e : TypeId) (i : TypeInfo) (ht : P.underlying t = some (.slice e)) (hu : P.underlying u = some .string) (hi : P.info? e = some i) (hz : i.zero = some (.int .u8 0)) (hsize : i.size = 1) (hby : i.bytes = 1)
    (v : Value) (bs : List UInt8) (hs : a.eval sl = v) (hv : RowV e v bs w) (s : List UInt8) (hx : a.eval x = .string ⟨s.toArray⟩) (h0 : s ≠ []) (hbytes : bs.length + s.length ≤ 140737488355328)
    (h : ∀ g' cap' cur' w', w'.heap[g']? = some (.cells cur' e (0, 0)) → (bs ++ s).length ≤ cap' → cap' ≤ maxLen → cur'.size = cap' → cur'.toList.take (bs ++ s).length = Lib.byteCells (bs ++ s) → (v.ownBlock = some g' ∨ w.heap.size = g') → Fr w (fun x => v.ownBlock = some x) w' →
      wpList P ops Q rest (a.put o.dst (.slice (some ⟨g', 0, none⟩) (bs ++ s).length cap')) w') : wpList P ops Q (o :: rest) a w := by
  refine wpList_plain hgd fun K hK => ?_
  obtain ⟨g', cap', cur', w', hr, h1, h2, h3, h4, h5, h6, h7⟩ := run_append_buf (P := P) (w := w) t u o.type e i ht hu hi hz hsize hby v bs hv s h0 hbytes
  unfold Oper.wp execOp
  simp only [ho, resolve, invoke, builtin, Sem.run_bind, Sem.run_pure, Result.andThen_ok, List.map_toArray, List.map_cons, List.map_nil, hs, hx, hr]
  exact hK _ _ (h g' cap' cur' w' h1 h2 h3 h4 h5 h6 h7)
theorem Try.copyCheck_exact (L : Lays.n240 P ρ) (X : Builder.X72 P ρ) (b : Nat) (q : Bool) (sv : Value) (w : World) (hbk : w.heap[b]? = some (.cells #[.pointer (if q then some ⟨b, 0, none⟩ else none), sv] (ρ.t 72) (0, 0))) :
    Calls P (ρ.f 240) #[.pointer (some ⟨b, 0, none⟩)] w fun e w1 => e = .returned (.tuple #[]) ∧ w1.heap[b]? = some (.cells #[.pointer (some ⟨b, 0, none⟩), sv] (ρ.t 72) (0, 0)) ∧ Fr w (fun x => x = b) w1 ∧ w1.heap.size = w.heap.size := by
  cases q with
  | true =>
    refine (Any.Builder_copyCheck_used L X b w (by rw [Lib.cell_of_heap hbk]; rfl)).mono ?_
    rintro e w' ⟨rfl, rfl⟩
    exact ⟨rfl, hbk, Fr.refl _ _, rfl⟩
  | false =>
    refine (Any.Builder_copyCheck_fresh L X b w (by rw [Lib.cell_of_heap hbk]; rfl) (by simp [World.shape?, hbk]) (Lib.frozen_of_heap hbk 0)).mono ?_
    rintro e w' ⟨rfl, rfl⟩
    exact ⟨rfl, setCell_heap 0 _ hbk, fr_setCell 0 _ hbk, by simp [World.setCell]⟩
set_option maxHeartbeats 2000000 in
set_option maxRecDepth 100000 in
theorem Try.writeString_exact (L : Lays.n166 P ρ) (X : Builder.Extra P ρ) (b : Nat) (q : Bool) (sv : Value) (bs s : List UInt8) (w : World) (hbk : w.heap[b]? = some (.cells #[.pointer (if q then some ⟨b, 0, none⟩ else none), sv] (ρ.t 72) (0, 0)))
    (hrow : RowV (ρ.t 5) sv bs w) (hne : sv.ownBlock ≠ some b) (h0 : s ≠ []) (hlen : bs.length + s.length ≤ 140737488355328) :
    Calls P (ρ.f 166) #[.pointer (some ⟨b, 0, none⟩), .string ⟨s.toArray⟩] w fun e w' => e = .returned (.tuple #[.int .i64 s.length, .nilIface]) ∧ ∃ g' cap' cur',
      w'.heap[b]? = some (.cells #[.pointer (some ⟨b, 0, none⟩), .slice (some ⟨g', 0, none⟩) (bs.length + s.length) cap'] (ρ.t 72) (0, 0)) ∧ g' ≠ b ∧ w'.heap[g']? = some (.cells cur' (ρ.t 5) (0, 0)) ∧ (bs.length + s.length) ≤ cap' ∧ cap' ≤ maxLen ∧ cur'.size = cap' ∧
      cur'.toList.take (bs.length + s.length) = Lib.byteCells (bs ++ s) ∧ (sv.ownBlock = some g' ∨ w.heap.size = g') ∧ Fr w (fun x => x = b ∨ sv.ownBlock = some x) w' := by
  obtain ⟨i0, hi, hz0, hz1, hz2⟩ := info_parts X.infoByte
  have mixed := L.mixed
  have t72 := L.t72; have a72 := L.a72; have z72 := L.z72; have v72 := L.v72; have u72 := run_underlying L.t72
  have t70 := L.t70; have a70 := L.a70; have z70 := L.z70; have v70 := L.v70; have u70 := run_underlying L.t70
  have t37 := L.t37; have a37 := L.a37; have z37 := L.z37; have v37 := L.v37; have u37 := run_underlying L.t37
  have t3 := L.t3; have a3 := L.a3; have z3 := L.z3; have v3 := L.v3; have u3 := run_underlying L.t3
  have t9 := L.t9; have a9 := L.a9; have z9 := L.z9; have v9 := L.v9; have u9 := run_underlying L.t9
  have t4 := L.t4; have a4 := L.a4; have z4 := L.z4; have v4 := L.v4; have u4 := run_underlying L.t4
  have t164 := L.t164; have a164 := L.a164; have z164 := L.z164; have v164 := L.v164; have u164 := run_underlying L.t164
  have t5 := X.t5; have a5 := X.a5; have z5 := X.z5; have v5 := X.v5; have u5 := run_underlying X.t5
  have e240 : ∀ args w, (callFunc (ρ.f 240) args).run P w = .ok (.enter (ρ.f 240) args) w := enters_of L.f240 (by kernel_rfl) rfl
  have hsz : (ByteArray.mk s.toArray).size = s.length := by simp [ByteArray.size]
  go_enter L.f166, Body.n166_ntmps ρ
  go_wp2_with (go_at_fn (ρ.f 240); refine (Try.copyCheck_exact { L with } X.toX72 b q sv _ hbk).mono ?_)
  rintro e w1 ⟨rfl, hbk1, hf1, hs1⟩
  have hrow1 : RowV (ρ.t 5) sv bs w1 := by
    rcases hrow with h | ⟨g, cap, cur, r0, r1, r2, r3⟩
    · exact .inl h
    · exact .inr ⟨g, cap, cur, r0, r1, (hf1.block g (lt_of_block r2) (fun e => hne (by rw [r1, ← e]; rfl))).trans r2, r3⟩
  have c0 : w1.cell? ⟨b, 0, none⟩ = some (.pointer (some ⟨b, 0, none⟩)) := by rw [Lib.cell_of_heap hbk1]; rfl
  have c1 : w1.cell? ⟨b, 1, none⟩ = some sv := by rw [Lib.cell_of_heap hbk1]; rfl
  go_wp2_with (at_builtin; refine Try.run_append_buf_wp rfl _ _ (ρ.t 37) (ρ.t 9) rfl (ρ.t 5) i0 L.t37 L.t9 hi hz0 hz1 hz2 _ bs rfl hrow1 s rfl h0 hlen ?_)
  intro g' cap' cur' w2 k1 k2 k3 k4 k5 k6 k7
  have hb2 : w2.heap[b]? = some (.cells #[.pointer (some ⟨b, 0, none⟩), sv] (ρ.t 72) (0, 0)) := (k7.block b (lt_of_block hbk1) hne).trans hbk1
  have d0 : w2.cell? ⟨b, 0, none⟩ = some (.pointer (some ⟨b, 0, none⟩)) := by rw [Lib.cell_of_heap hb2]; rfl
  have d1 : w2.cell? ⟨b, 1, none⟩ = some sv := by rw [Lib.cell_of_heap hb2]; rfl
  have f1 : w2.frozen? ⟨b, 1, none⟩ = false := Lib.frozen_of_heap hb2 1
  have hgb : g' ≠ b := by
    rintro rfl
    rcases k6 with h | h
    · exact hne h
    · have := lt_of_block hbk1; omega
  go_wp2
  go_ret2
  refine ⟨rfl, g', cap', cur', setCell_heap 1 _ hb2, hgb, (Below.heap_setCell _ _ _ _ hgb).trans k1, k2, k3, k4, k5, k6, ?_⟩
  exact ((hf1.weaken (O' := fun x => x = b ∨ sv.ownBlock = some x) (fun _ _ h => .inl h)).trans k7 (fun _ _ h => .inr h)).trans (fr_setCell 1 _ hb2) (fun _ _ h => .inl h)
set_option maxHeartbeats 1000000 in
set_option maxRecDepth 100000 in
theorem Try.string_exact (L : Lays.n169 P ρ) (X : Builder.Extra P ρ) (b : Nat) (p sv : Value) (l : List UInt8) (w : World) (hbk : w.heap[b]? = some (.cells #[p, sv] (ρ.t 72) (0, 0))) (hrow : RowV (ρ.t 5) sv l w) :
    Calls P (ρ.f 169) #[.pointer (some ⟨b, 0, none⟩)] w fun e w' => e = .returned (.string ⟨l.toArray⟩) ∧ Fr w (fun x => sv.ownBlock = some x) w' := by
  rcases hrow with ⟨rfl, rfl⟩ | ⟨g, cap, cur, h0, rfl, hg, hnc, hcm, hcs, htake⟩
  · refine (Any.Builder_String_nil L X w.heap.size b p w hbk).mono ?_
    rintro e w' ⟨rfl, hb⟩
    exact ⟨rfl, Fr.of_below hb _⟩
  have hl0 : l.length ≠ 0 := by simpa using h0
  have hrow : w.ownsRow 0 (ρ.t 5) 1 (.slice (some ⟨g, 0, none⟩) l.length cap) l.length (Lib.byteCells l) := ⟨by simp [Lib.byteCells], .inr ⟨g, cap, cur, rfl, Nat.zero_le _, hg, hnc, hcm, by simpa using hcs, by simpa using htake⟩⟩
  have c1 : w.drew.cell? ⟨b, 1, none⟩ = some (.slice (some ⟨g, 0, none⟩) l.length cap) := by
    have : w.drew.heap[b]? = some (.cells #[p, .slice (some ⟨g, 0, none⟩) l.length cap] (ρ.t 72) (0, 0)) := hbk
    rw [Lib.cell_of_heap this]; rfl
  have hSD : (Builtin.unsafeSliceData_ #[(ρ.t 37)] (ρ.t 127) #[.slice (some ⟨g, 0, none⟩) l.length cap]).run P w.drew = .ok (.pointer (some ⟨g, 0, none⟩)) w.drew :=
    Lib.run_unsafeSliceData_row _ _ _ _ _ _ (by omega)
  have hUS : (Builtin.unsafeString_ #[(ρ.t 127), (ρ.t 3)] (ρ.t 9) #[.pointer (some ⟨g, 0, none⟩), .int .i64 l.length]).run P w.drew = .ok (.string ⟨l.toArray⟩) (w.drew.freeze ⟨g, 0, none⟩ l.length) := by
    refine Lib.run_unsafeString_row w.drew (ρ.t 127) (ρ.t 3) (ρ.t 9) (ρ.t 5) L.t127 X.cellsByte g cur.size (by have hg' : w.drew.heap[g]? = some (.cells cur (ρ.t 5) (0, 0)) := hg; simp [World.shape?, hg']) l h0 (by omega) (by unfold maxLen at hcm; omega) ?_
    intro j x hx
    have := hrow.cells (g := g) rfl j (.int .u8 x.toNat) (by simp [Lib.byteCells, hx])
    exact this
  have mixed := L.mixed
  have t72 := L.t72; have a72 := L.a72; have z72 := L.z72; have v72 := L.v72; have u72 := run_underlying L.t72
  have t70 := L.t70; have a70 := L.a70; have z70 := L.z70; have v70 := L.v70; have u70 := run_underlying L.t70
  have t37 := L.t37; have a37 := L.a37; have z37 := L.z37; have v37 := L.v37; have u37 := run_underlying L.t37
  have t127 := L.t127; have a127 := L.a127; have z127 := L.z127; have v127 := L.v127; have u127 := run_underlying L.t127
  have t3 := L.t3; have a3 := L.a3; have z3 := L.z3; have v3 := L.v3; have u3 := run_underlying L.t3
  have t9 := L.t9; have a9 := L.a9; have z9 := L.z9; have v9 := L.v9; have u9 := run_underlying L.t9
  have t5 := X.t5; have a5 := X.a5; have z5 := X.z5; have v5 := X.v5; have u5 := run_underlying X.t5
  go_enter L.f169, Body.n169_ntmps ρ
  go_wp2
  go_region_o
  all_goals (go_wp2; go_ret; exact ⟨rfl, ((Fr.drew w _).trans fr_freeze (O := fun x => x = g) (fun _ _ h => h)).weaken (fun x _ h => by simp [Value.ownBlock, h])⟩)
end Go.Proofs
namespace Go.Proofs.Ythdgdngdfijfhaa
open Go.RowKit Go.Proofs Go.Shelf
def byP (bs : List UInt8) : List PV := bs.map fun c => .int .u8 (c.toNat : Int)
theorem flat_byP : ∀ t : List UInt8, flat (byP t) = byP t
  | [] => rfl
  | c :: r => by
    have := flat_byP r
    simpa [byP, flat, PV.cells] using this
theorem byP_length (t : List UInt8) : (byP t).length = t.length := by simp [byP]
theorem byP_get (t : List UInt8) (i : Nat) (h : i < t.length) : (byP t)[i]? = some (.int .u8 (t[i].toNat : Int)) := by simp [byP, List.getElem?_eq_getElem h]
def Bld (b : Nat) (bs : List UInt8) (H : Hp) : Prop := ∃ q v, H (.real b) = some (.row true 2 [.agg [.tagp q b 134 2, v]]) ∧
  ((bs = [] ∧ v = .list .nil []) ∨ (bs ≠ [] ∧ ∃ g, g ≠ b ∧ v = .tags g 5 bs.length ∧ H (.real g) = some (.row true 1 (byP bs))))
theorem bld_world {b : Nat} {bs : List UInt8} {H : Hp} {w : World} {X : Nat → Prop} (h : Bld b bs H) (hH : HR w X H) : ¬ X b ∧ ∃ (q : Bool) (sv : Value), w.heap[b]? = some (.cells #[.pointer (if q then some ⟨b, 0, none⟩ else none), sv] 134 (0, 0)) ∧ RowV 5 sv bs w ∧ sv.ownBlock ≠ some b ∧ ∀ g, sv.ownBlock = some g → own H g ∧ ¬ X g := by
  obtain ⟨q, v, h1, h2⟩ := h
  obtain ⟨_, hX, cs, t, hb, hle, hel⟩ := hH _ _ _ _ h1
  have hle' : 2 ≤ cs.size := hle
  obtain ⟨v0, hc0⟩ : ∃ v0, cs[0]? = some v0 := ⟨_, Array.getElem?_eq_getElem (by omega)⟩
  obtain ⟨v1, hc1⟩ : ∃ v1, cs[1]? = some v1 := ⟨_, Array.getElem?_eq_getElem (by omega)⟩
  have e0 := hel 0 v0 _ hc0 rfl
  have e1 := hel 1 v1 v hc1 rfl
  obtain ⟨cs', fr, hb', hn, rfl⟩ : ∃ cs' fr, w.heap[b]? = some (.cells cs' 134 fr) ∧ cs'.size = 2 ∧ v0 = .pointer (if q then some ⟨b, 0, none⟩ else none) := by
    cases e0 with
    | tagp q b t n cs' fr hb hn => exact ⟨cs', fr, hb, hn, rfl⟩
  rw [hb] at hb'
  obtain ⟨rfl, rfl, _⟩ : cs = cs' ∧ t = 134 ∧ (0, 0) = fr := by simpa using hb'
  have hcs : cs = #[.pointer (if q then some ⟨b, 0, none⟩ else none), v1] := by
    apply Array.ext_getElem?
    intro i
    match i with
    | 0 => exact hc0
    | 1 => exact hc1
    | i + 2 => rw [Array.getElem?_eq_none (by omega), Array.getElem?_eq_none (by simp)]
  refine ⟨hX, q, v1, ?_, ?_⟩
  · rw [← hcs]; exact hb
  rcases h2 with ⟨rfl, rfl⟩ | ⟨hne, g, hgb, rfl, hg⟩
  · have : v1 = .slice none 0 0 := by
      cases e1 with
      | list k xs a cap sz cs h1 h2 => obtain ⟨rfl, rfl⟩ := h2 rfl; rfl
    rw [this]
    exact ⟨.inl ⟨rfl, rfl⟩, by simp [Value.ownBlock], fun g e => by simp [Value.ownBlock] at e⟩
  · obtain ⟨cap, cur, fr, hv1, k1, k2, k3, k4⟩ : ∃ cap cur fr, v1 = .slice (some ⟨g, 0, none⟩) bs.length cap ∧ w.heap[g]? = some (.cells cur 5 fr) ∧ cur.size = cap ∧ bs.length ≤ cap ∧ cap ≤ maxLen := by
      cases e1 with
      | tags b t n cap cs fr h1 h2 h3 h4 => exact ⟨cap, cs, fr, rfl, h1, h2, h3, h4⟩
    obtain ⟨_, hXg, cs3, t3, m1, m2, m3⟩ := hH _ _ _ _ hg
    rw [m1] at k1
    obtain ⟨rfl, rfl, rfl⟩ : cs3 = cur ∧ t3 = 5 ∧ (0, 0) = fr := by simpa using k1
    rw [flat_byP] at m3
    rw [hv1]
    refine ⟨.inr ⟨g, cap, cs3, hne, rfl, m1, k3, k4, k2, ?_⟩, by simpa [Value.ownBlock] using hgb, fun g' e => ?_⟩
    · apply List.ext_getElem?
      intro i
      rcases Nat.lt_or_ge i bs.length with hi | hi
      · rw [List.getElem?_take_of_lt hi, Array.getElem?_toList, Array.getElem?_eq_getElem (by omega)]
        have := m3 i cs3[i] (.int .u8 (bs[i].toNat : Int)) (Array.getElem?_eq_getElem (by omega)) (byP_get _ _ hi)
        rw [this.int_inv]
        simp [Lib.byteCells, List.getElem?_eq_getElem hi]
      · rw [List.getElem?_eq_none (by simp; omega), List.getElem?_eq_none (by simp [Lib.byteCells]; omega)]
    · obtain rfl : g = g' := by simpa [Value.ownBlock] using e
      exact ⟨⟨_, _, hg⟩, hXg⟩
theorem ref0_inv {w : World} {O : Nat → Prop} {v : Value} {b : Nat} (h : VR w O v (.ref (.real b) 2 0 0)) : v = .pointer (some ⟨b, 0, none⟩) := by
  cases h
  rfl
theorem two_of {w : World} {O : Nat → Prop} {vs : Array Value} {a b : PV} (h : VRs w O vs [a, b]) : ∃ v0 v1, vs = #[v0, v1] ∧ VR w O v0 a ∧ VR w O v1 b := by
  have hs : vs.size = 2 := h.1
  refine ⟨vs[0], vs[1], ?_, h.2 0 _ _ (Array.getElem?_eq_getElem _) rfl, h.2 1 _ _ (Array.getElem?_eq_getElem _) rfl⟩
  apply Array.ext
  · exact hs
  · intro i h1 h2
    have : i = 0 ∨ i = 1 := by simp at h2; omega
    rcases this with rfl | rfl <;> rfl
theorem one_of {w : World} {O : Nat → Prop} {vs : Array Value} {a : PV} (h : VRs w O vs [a]) : ∃ v0, vs = #[v0] ∧ VR w O v0 a := by
  have hs : vs.size = 1 := h.1
  refine ⟨vs[0], ?_, h.2 0 _ _ (Array.getElem?_eq_getElem _) rfl⟩
  apply Array.ext
  · exact hs
  · intro i h1 h2
    have : i = 0 := by simp at h2; omega
    subst this; rfl
theorem p87 (b : Nat) (bs s : List UInt8) (H : Hp) (h : Bld b bs H) (h0 : s ≠ []) (hlen : bs.length + s.length ≤ 140737488355328) :
    CallsG Try.prog 87 [.ref (.real b) 2 0 0, .str s] H fun r H' => r = .tup [.int .i64 (s.length : Int), .nili] ∧ Bld b (bs ++ s) H' := by
  refine ⟨by kernel_rfl, fun N w X vs hX hH hB hv => ?_⟩
  obtain ⟨v0, v1, rfl, hv0, hv1⟩ := two_of hv
  have e0 := ref0_inv hv0
  have e1 := hv1.str_inv
  subst e0; subst e1
  obtain ⟨hXb, q, sv, hbk, hrow, hne, hown⟩ := bld_world h hH
  have hob : own H b := by obtain ⟨_, _, h1, _⟩ := h; exact ⟨_, _, h1⟩
  refine Calls.mono (Try.writeString_exact (P := Try.prog) (ρ := Try.lays105_ren) { Try.lays105 with } Try.Builder_Extra_105 b q sv bs s w hbk hrow hne h0 hlen) ?_
  rintro e w' ⟨rfl, g', cap', cur', k1, k2, k3, k4, k5, k6, k7, k8, k9⟩
  have hXg : ¬ X g' := by
    rcases k8 with h | h
    · exact (hown _ h).2
    · intro hx; have := hX _ hx; omega
  have hgo : own H g' ∨ w.heap.size ≤ g' := by
    rcases k8 with h | h
    · exact .inl (hown _ h).1
    · exact .inr (by omega)
  refine ⟨_, .tup [.int .i64 (s.length : Int), .nili], fun l => if l = .real b then some (.row true 2 [.agg [.tagp true b 134 2, .tags g' 5 (bs ++ s).length]]) else if l = .real g' then some (.row true 1 (byP (bs ++ s))) else none, rfl, k9.weaken (fun x _ hx => ?_), ?_, ?_, ?_, ⟨fun g c e => by simp at e, 0, fun _ _ => by simp⟩, rfl, ?_⟩
  · rcases hx with rfl | hx
    · exact hob
    · exact (hown _ hx).1
  · intro l m sz xs hl
    have hl : (if l = .real b then _ else _) = some (Chunk.row m sz xs) := hl
    by_cases e : l = .real b
    · subst e
      rw [if_pos rfl] at hl
      obtain ⟨rfl, rfl, rfl⟩ : true = m ∧ 2 = sz ∧ _ = xs := by simpa using hl
      refine ⟨fun x hx => by simp at hx; rw [hx]; rfl, hXb, _, _, k1, Nat.le_refl _, fun i v p hv hp => ?_⟩
      match i with
      | 0 =>
        obtain rfl : _ = v := by simpa using hv
        obtain rfl : _ = p := by simpa [flat, PV.cells] using hp
        exact .tagp true b 134 2 _ _ k1 rfl
      | 1 =>
        obtain rfl : _ = v := by simpa using hv
        obtain rfl : _ = p := by simpa [flat, PV.cells] using hp
        rw [List.length_append]
        exact .tags g' 5 _ cap' cur' _ k3 k6 k4 k5
      | i + 2 => simp at hv
    · rw [if_neg e] at hl
      by_cases e2 : l = .real g'
      · subst e2
        rw [if_pos rfl] at hl
        obtain ⟨rfl, rfl, rfl⟩ : true = m ∧ 1 = sz ∧ _ = xs := by simpa using hl
        rw [flat_byP]
        refine ⟨fun x hx => ?_, hXg, _, _, k3, by rw [byP_length, List.length_append]; omega, fun i v p hv hp => ?_⟩
        · obtain ⟨c, _, rfl⟩ := List.mem_map.1 hx; rfl
        · have hi : i < (bs ++ s).length := by rw [← byP_length]; exact (List.getElem?_eq_some_iff.1 hp).1
          have e3 : (cur'.toList.take (bs.length + s.length))[i]? = some v := by rw [List.getElem?_take_of_lt (by rw [← List.length_append]; exact hi), Array.getElem?_toList]; exact hv
          rw [k7] at e3
          obtain rfl : Value.int .u8 ((bs ++ s)[i].toNat : Int) = v := by
            rw [Lib.byteCells, List.getElem?_map, List.getElem?_eq_getElem hi] at e3
            simpa only [Option.map_some, Option.some.injEq] using e3
          obtain rfl : PV.int .u8 ((bs ++ s)[i].toNat : Int) = p := by rw [byP_get _ _ hi] at hp; simpa using hp
          exact .int _ _
      · rw [if_neg e2] at hl
        cases hl
  · rintro x ⟨sz, xs, hx⟩
    have hx : (if Lab.real x = .real b then _ else _) = some (Chunk.row true sz xs) := hx
    by_cases e : x = b
    · subst e; exact .inl hob
    · rw [if_neg (by simpa using e)] at hx
      by_cases e2 : x = g'
      · subst e2; exact hgo
      · rw [if_neg (by simpa using e2)] at hx
        cases hx
  · exact .tup _ _ rfl (fun i v p hv hp => by
      match i with
      | 0 =>
        obtain rfl : _ = v := by simpa using hv
        obtain rfl : _ = p := by simpa using hp
        exact .int _ _
      | 1 =>
        obtain rfl : _ = v := by simpa using hv
        obtain rfl : _ = p := by simpa using hp
        exact .nili
      | i + 2 => simp at hv)
  · refine ⟨true, .tags g' 5 (bs ++ s).length, ?_, .inr ⟨by simp [h0], g', k2, rfl, ?_⟩⟩
    · show (if Lab.real b = Lab.real b then _ else _) = _
      rw [if_pos rfl]
    · show (if Lab.real g' = Lab.real b then _ else _) = _
      rw [if_neg (by simpa using k2), if_pos rfl]
theorem p90 (b : Nat) (bs : List UInt8) (H : Hp) (h : Bld b bs H) : CallsG Try.prog 90 [.ref (.real b) 2 0 0] H fun r H' => r = .str bs ∧ H' = fun _ => none := by
  refine ⟨by kernel_rfl, fun N w X vs hX hH hB hv => ?_⟩
  obtain ⟨v0, rfl, hv0⟩ := one_of hv
  have e0 := ref0_inv hv0
  subst e0
  obtain ⟨hXb, q, sv, hbk, hrow, hne, hown⟩ := bld_world h hH
  refine Calls.mono (Try.string_exact (P := Try.prog) (ρ := Try.lays105_ren) { Try.lays105 with } Try.Builder_Extra_105 b _ sv bs w hbk hrow) ?_
  rintro e w' ⟨rfl, hf⟩
  refine ⟨_, .str bs, fun _ => none, rfl, hf.weaken (fun x _ hx => (hown _ hx).1), fun l m sz xs e => (by cases e), ?_, .str bs, ⟨fun g c e => (by cases e), 0, fun _ _ => rfl⟩, rfl, rfl⟩
  rintro x ⟨_, _, e⟩
  cases e
theorem p87k (b : Nat) (bs s : List UInt8) (H : Hp) (h : Bld b bs H) (h0 : s ≠ []) (hlen : bs.length + s.length ≤ 140737488355328) {K : PV → Hp → Prop} (hK : ∀ H', Bld b (bs ++ s) H' → K (.tup [.int .i64 (s.length : Int), .nili]) H') :
    CallsG Try.prog 87 [.ref (.real b) 2 0 0, .str s] H K := (p87 b bs s H h h0 hlen).mono fun v H' ⟨e, hb⟩ => by subst e; exact hK H' hb
theorem p90k (b : Nat) (bs : List UInt8) (H : Hp) (h : Bld b bs H) {K : PV → Hp → Prop} (hK : K (.str bs) fun _ => none) : CallsG Try.prog 90 [.ref (.real b) 2 0 0] H K := (p90 b bs H h).mono fun v H' ⟨e, e2⟩ => by subst e; subst e2; exact hK
theorem bld_new (b : Nat) (H : Hp) (h : H (.real b) = some (.row true 2 [.agg [.tagp false b 134 2, .list .nil []]])) : Bld b [] H := ⟨false, _, h, .inl ⟨rfl, rfl⟩⟩
end Go.Proofs.Ythdgdngdfijfhaa
namespace Go.Proofs.Ythdgdngdfijfhaa
open Go.RowKit Go.Proofs
set_option linter.unusedVariables false
set_option linter.unusedSimpArgs false
attribute [local irreducible] PPure CallN Tops TopsDm T
def framesF : List (List UInt8) → List UInt8
  | [] => []
  | s :: r => frmF 82 s ++ framesF r
theorem framesF_append : ∀ a b : List (List UInt8), framesF (a ++ b) = framesF a ++ framesF b
  | [], b => rfl
  | s :: r, b => by simp [framesF, framesF_append r b]
theorem smdF_len (a s : List UInt8) : (smdF a s).length = s.length + 4 := by
  simp [smdF, leB_len]
theorem frmF_len (k : UInt8) (s : List UInt8) : (frmF k s).length = s.length + 8 := by
  rw [frmF, smdF_len]
  simp [leB_len]; omega
theorem framesF_len (n : Nat) : ∀ l : List (List UInt8), (∀ s ∈ l, s.length ≤ n) → (framesF l).length ≤ l.length * (n + 8)
  | [], _ => by simp [framesF]
  | s :: r, h => by
    have h1 := framesF_len n r (fun x hx => h x (List.mem_cons_of_mem _ hx))
    have h2 := h s List.mem_cons_self
    simp only [framesF, List.length_append, frmF_len, List.length_cons, Nat.succ_mul]
    omega
attribute [local go_sem] encS Int.toNat_natCast List.getElem?_map Option.map_some in
set_option maxHeartbeats 1000000 in
theorem p85 (l : List (List UInt8)) (hl : l.length ≤ 1000) (hs : ∀ s ∈ l, s.length ≤ 20000) : PPure Try.prog 85 [.list .any (l.map encS)] (.str (framesF l)) := by
  (refine ppure_of_T ok85 (by simp only [List.length_cons, List.length_nil]; decide) ?_; refine t_seq ?_)
  (have hA := True.intro; have hP := True.intro; have hNE := True.intro; have hC := True.intro; repeat' first
      | with_reducible first | refine k_seq ?_ | refine t_seq ?_ | refine t_reg ?_ | refine t_nil ?_ | refine t_block ?_
      | refine ae_val ?_
      | ((with_reducible refine te_allocT z_134 rfl ?_); (intro la ha hn1; have hNE := And.intro hNE hn1)))
  refine t_loopE (fun (k0 : Nat) (E0 : Nat → PV) (H0 : Hp) => ∃ (i : Nat), i + k0 = l.length ∧ Bld la (framesF (l.take i)) H0 ∧ E0 8 = .int .i64 (i : Int)) (l.length) ⟨0, (by first | omega | rfl | assumption | (simp only [go_sem, cast0]; first | done | rfl | assumption | omega)), ?_, (by simp only [go_sem, cast0]; first | done | rfl)⟩ ?_
  · exact bld_new _ _ (by simp (maxDischargeDepth := 8) only [go_sem])
  rintro k0 E0 H0 hfr0 ⟨i, hi, hb, h0_8⟩
  have e0_2 := hfr0 2 rfl; have e0_3 := hfr0 3 rfl; have e0_6 := hfr0 6 rfl; have e0_7 := hfr0 7 rfl
  simp only [go_sem, cast0] at e0_2 e0_3 e0_6 e0_7
  clear hfr0
  by_cases hi2 : i < l.length
  · obtain ⟨s, hg, hdr⟩ := at_list hi2
    have hlt := lt_int hi2
    have hw := wrap_next hi2 hl
    have hge : (0 : Int) ≤ (i : Int) := by omega
    have hsl := hs s (List.mem_of_getElem? hg)
    have h1 : PPure Try.prog 86 [.int .u8 82, .str s] (.str (frmF 82 s)) := p86 82 s (by decide) hsl
    have hne : frmF 82 s ≠ [] := fun e => by
      have := frmF_len 82 s
      rw [e] at this; simp at this
    have hbl : (framesF (l.take i)).length + (frmF 82 s).length ≤ 140737488355328 := by
      have h3 := framesF_len 20000 (l.take i) (fun x hx => hs x (List.mem_of_mem_take hx))
      have h2 : (l.take i).length ≤ 1000 := by simp; omega
      have := Nat.mul_le_mul_right 20008 h2
      rw [frmF_len]
      omega
    (have hA := And.intro e0_2 (And.intro e0_3 (And.intro e0_6 (And.intro e0_7 (And.intro h0_8 (And.intro hlt (And.intro hge (hg))))))); have hP := And.intro h1 (True.intro); have hNE := True.intro; have hC := True.intro; repeat' first
        | with_reducible first | refine k_seq ?_ | refine t_seq ?_ | refine t_reg ?_ | refine t_nil ?_ | refine t_skip ?_ | refine t_block ?_
        | refine ae_val ?_
        | refine ae_callS ?_
        | refine a_cond ?_ ?_
        | (with_reducible intro hc; with_reducible exact Bool.noConfusion hc)
        | (with_reducible intro hc; have hC := And.intro hC hc))
    (first | ((with_reducible apply te_callG); (focus (simp (maxDischargeDepth := 8) only [go_sem, hNE, e0_2, e0_3, e0_6, e0_7, h0_8]; first | done | exact rfl)); (focus (simp (maxDischargeDepth := 8) only [go_sem, hNE, e0_2, e0_3, e0_6, e0_7, h0_8]; first | done | exact rfl))) | ((with_reducible apply te_callGB); (focus (simp (maxDischargeDepth := 8) only [go_sem, hNE, e0_2, e0_3, e0_6, e0_7, h0_8]; first | done | exact rfl)); (focus (simp (maxDischargeDepth := 8) only [go_sem, hNE, e0_2, e0_3, e0_6, e0_7, h0_8]; first | done | exact rfl))) | ((with_reducible apply me_callG); (focus (simp (maxDischargeDepth := 8) only [go_sem, hNE, e0_2, e0_3, e0_6, e0_7, h0_8]; first | done | exact rfl)); (focus (simp (maxDischargeDepth := 8) only [go_sem, hNE, e0_2, e0_3, e0_6, e0_7, h0_8]; first | done | exact rfl)); (focus (simp only [List.all_cons, List.all_nil, allocB, PV.isDef, go_sem, hNE, e0_2, e0_3, e0_6, e0_7, h0_8]; first | done | exact rfl))) | ((with_reducible apply me_callGB); (focus (simp (maxDischargeDepth := 8) only [go_sem, hNE, e0_2, e0_3, e0_6, e0_7, h0_8]; first | done | exact rfl)); (focus (simp (maxDischargeDepth := 8) only [go_sem, hNE, e0_2, e0_3, e0_6, e0_7, h0_8]; first | done | exact rfl)); (focus (simp only [List.all_cons, List.all_nil, allocB, PV.isDef, go_sem, hNE, e0_2, e0_3, e0_6, e0_7, h0_8]; first | done | exact rfl)))); refine p87k la _ _ _ hb hne hbl ?_
    intro H2 hb2
    (have hA := And.intro e0_2 (And.intro e0_3 (And.intro e0_6 (And.intro e0_7 (h0_8)))); have hP := True.intro; have hNE := True.intro; have hC := True.intro; repeat' first
        | with_reducible first | refine k_seq ?_ | refine t_reg ?_ | refine t_nil ?_ | refine k_blk ?_
        | refine ae_val ?_)
    refine k_invE (k0 - 1) (by omega) ⟨i + 1, (by omega), ?_, (by simp only [go_sem, e0_2, e0_3, e0_6, e0_7, h0_8, hw]; first | done | rfl)⟩
    have e2 : l.take (i + 1) = l.take i ++ [s] := by rw [List.take_add_one, hg]; rfl
    rw [e2, framesF_append]
    simpa [framesF] using hb2
  · have hlt := nlt_int hi2
    have e2 : l.take i = l := List.take_of_length_le (by omega)
    rw [e2] at hb
    (have hA := And.intro e0_2 (And.intro e0_3 (And.intro e0_6 (And.intro e0_7 (And.intro h0_8 (hlt))))); have hP := True.intro; have hNE := True.intro; have hC := True.intro; repeat' first
        | with_reducible first | refine k_seq ?_ | refine t_seq ?_ | refine t_reg ?_ | refine t_nil ?_ | refine t_exit ?_ | refine k_seq_exit ?_ | refine k_blk_exit ?_ | refine k_invE_exit ?_
        | refine ae_val ?_
        | refine a_cond ?_ ?_
        | (with_reducible intro hc; with_reducible exact Bool.noConfusion hc)
        | (with_reducible intro hc; have hC := And.intro hC hc))
    (first | ((with_reducible apply te_callG); (focus (simp (maxDischargeDepth := 8) only [go_sem, hNE, e0_2, e0_3, e0_6, e0_7, h0_8]; first | done | exact rfl)); (focus (simp (maxDischargeDepth := 8) only [go_sem, hNE, e0_2, e0_3, e0_6, e0_7, h0_8]; first | done | exact rfl))) | ((with_reducible apply te_callGB); (focus (simp (maxDischargeDepth := 8) only [go_sem, hNE, e0_2, e0_3, e0_6, e0_7, h0_8]; first | done | exact rfl)); (focus (simp (maxDischargeDepth := 8) only [go_sem, hNE, e0_2, e0_3, e0_6, e0_7, h0_8]; first | done | exact rfl))) | ((with_reducible apply me_callG); (focus (simp (maxDischargeDepth := 8) only [go_sem, hNE, e0_2, e0_3, e0_6, e0_7, h0_8]; first | done | exact rfl)); (focus (simp (maxDischargeDepth := 8) only [go_sem, hNE, e0_2, e0_3, e0_6, e0_7, h0_8]; first | done | exact rfl)); (focus (simp only [List.all_cons, List.all_nil, allocB, PV.isDef, go_sem, hNE, e0_2, e0_3, e0_6, e0_7, h0_8]; first | done | exact rfl))) | ((with_reducible apply me_callGB); (focus (simp (maxDischargeDepth := 8) only [go_sem, hNE, e0_2, e0_3, e0_6, e0_7, h0_8]; first | done | exact rfl)); (focus (simp (maxDischargeDepth := 8) only [go_sem, hNE, e0_2, e0_3, e0_6, e0_7, h0_8]; first | done | exact rfl)); (focus (simp only [List.all_cons, List.all_nil, allocB, PV.isDef, go_sem, hNE, e0_2, e0_3, e0_6, e0_7, h0_8]; first | done | exact rfl)))); refine p90k la _ _ hb ?_
    (have hA := And.intro e0_2 (And.intro e0_3 (And.intro e0_6 (And.intro e0_7 (h0_8)))); have hP := True.intro; have hNE := True.intro; have hC := True.intro; repeat' first
        | with_reducible first | refine k_seq ?_ | refine t_nil ?_ | refine t_ret ?_
        | refine ae_val ?_)
    (first | apply pend rs85 | apply pendN rs85); (focus (simp only [go_sem, e0_2, e0_3, e0_6, e0_7, h0_8]; first | done | exact rfl)); (focus (simp only [go_sem, e0_2, e0_3, e0_6, e0_7, h0_8]; first | done | exact rfl))
end Go.Proofs.Ythdgdngdfijfhaa
namespace Go.Proofs.Ythdgdngdfijfhaa
open Go.RowKit Go.Proofs
set_option linter.unusedVariables false
set_option linter.unusedSimpArgs false
attribute [local irreducible] PPure CallN Tops TopsDm T
def slotAt (u : Un) (i : Nat) : List UInt8 :=
  match u.there[i]? with
  | some true => sltF (i + 1) ((u.recs[i]?).getD [])
  | _ => List.replicate (u.width.toNat + 4) 0
def slotsN (u : Un) : Nat → List UInt8
  | 0 => []
  | n + 1 => slotsN u n ++ slotAt u n
def bytesF (u : Un) : List UInt8 :=
  if u.access = 2 then u.bytes else if u.access = 0 then framesF u.recs ++ (if u.ended = true then frmF 69 [] else []) else slotsN u u.recs.length
theorem smdF_ne (b s : List UInt8) : smdF b s ≠ [] := fun e => by
  have := smdF_len b s
  rw [e] at this; simp at this
theorem sltF_len (n : Nat) (s : List UInt8) : (sltF n s).length = s.length + 4 := smdF_len _ _
theorem slotAt_len {u : Un} (h : Vu u) (ha : u.access = 1) (i : Nat) : (slotAt u i).length ≤ 204 ∧ slotAt u i ≠ [] := by
  obtain ⟨h0, _⟩ | ⟨_, h1, h2, h3, h4, h5, _⟩ | ⟨h0, _⟩ := h
  · omega
  · unfold slotAt
    split
    · rename_i ht
      refine ⟨?_, smdF_ne _ _⟩
      rw [sltF_len]
      obtain ⟨s, hs⟩ : ∃ s, u.recs[i]? = some s := ⟨u.recs[i]'(by have := (List.getElem?_eq_some_iff.1 ht).1; omega), List.getElem?_eq_getElem _⟩
      have := h5 i s true hs ht
      rw [hs]; simp at this ⊢; omega
    · refine ⟨by simp; omega, fun e => ?_⟩
      have := congrArg List.length e; simp at this
  · omega
theorem slotsN_len {u : Un} (h : Vu u) (ha : u.access = 1) : ∀ n, (slotsN u n).length ≤ 204 * n
  | 0 => by simp [slotsN]
  | n + 1 => by
    have := slotsN_len h ha n
    have := (slotAt_len h ha n).1
    simp only [slotsN, List.length_append]; omega
attribute [local go_sem] strCmp Int.natCast_add encS encB Int.toNat_natCast List.getElem?_map Option.map_some in
set_option maxHeartbeats 2000000 in
theorem p50 (u : Un) (h : Vu u) : PPure Try.prog 50 [encU u] (.str (bytesF u)) := by
  have hv := h
  obtain ⟨ha, hw, hn, hs, ht, hb, hp0, hp1⟩ | ⟨ha, hw0, hw1, hn, ht, hst, hl, hb, he, hp⟩ | ⟨ha, hw, hn, ht, hb, he, hp0, hp1⟩ := h
  · have h1 := p85 u.recs (by omega) (fun s hs' => by have := hs s hs'; omega)
    have h2 : PPure Try.prog 86 [.int .u8 69, .str []] (.str (frmF 69 [])) := p86 69 [] (by decide) (by simp)
    have hfl : (framesF u.recs).length ≤ 1000000 := by
      have := framesF_len 200 u.recs hs
      have := Nat.mul_le_mul_right 208 hn
      omega
    have h3 : (frmF 69 []).length = 8 := frmF_len _ _
    have hsz : ((framesF u.recs).length : Int) + ((frmF 69 []).length : Int) ≤ 9223372036854775807 := by omega
    have e1 : bytesF u = framesF u.recs ++ (if u.ended = true then frmF 69 [] else []) := by simp [bytesF, ha]
    rw [e1]
    simp only [encU, ha]
    cases hen : u.ended with
    | true =>
      (refine ppure_of_T ok50 (by simp only [List.length_cons, List.length_nil]; decide) ?_; refine t_seq ?_)
      (have hA := hsz; have hP := And.intro h1 (And.intro h2 (True.intro)); have hNE := True.intro; have hC := True.intro; repeat' first
          | with_reducible first | refine k_seq ?_ | refine t_seq ?_ | refine t_reg ?_ | refine t_nil ?_ | refine t_ret ?_ | refine k_seq_ret ?_ | refine k_blk_ret ?_ | refine t_block ?_
          | refine ae_val ?_
          | refine ae_callS ?_
          | refine ae_box ?_
          | refine a_cond ?_ ?_
          | (with_reducible intro hc; with_reducible exact Bool.noConfusion hc)
          | (with_reducible intro hc; have hC := And.intro hC hc))
      (first | apply pend rs50 | apply pendN rs50); (focus (simp only [go_sem]; first | done | exact rfl)); (focus (simp only [go_sem]; first | done | exact rfl))
    | false =>
      (refine ppure_of_T ok50 (by simp only [List.length_cons, List.length_nil]; decide) ?_; refine t_seq ?_)
      (have hA := True.intro; have hP := And.intro h1 (And.intro h2 (True.intro)); have hNE := True.intro; have hC := True.intro; repeat' first
          | with_reducible first | refine k_seq ?_ | refine t_seq ?_ | refine t_reg ?_ | refine t_nil ?_ | refine t_skip ?_ | refine t_ret ?_ | refine k_seq_ret ?_ | refine k_blk_ret ?_ | refine t_block ?_
          | refine ae_val ?_
          | refine ae_callS ?_
          | refine ae_box ?_
          | refine a_cond ?_ ?_
          | (with_reducible intro hc; with_reducible exact Bool.noConfusion hc)
          | (with_reducible intro hc; have hC := And.intro hC hc))
      (first | apply pend rs50 | apply pendN rs50); (focus (simp only [go_sem, List.append_nil]; first | done | exact rfl)); (focus (simp only [go_sem, List.append_nil]; first | done | exact rfl))
  · have hac := ha
    have e1 : bytesF u = slotsN u u.recs.length := by simp [bytesF, ha]
    have h62 := p62 u ⟨by omega, by omega⟩
    rw [e1]
    simp only [encU, ha] at h62 ⊢
    (refine ppure_of_T ok50 (by simp only [List.length_cons, List.length_nil]; decide) ?_; refine t_seq ?_)
    (have hA := True.intro; have hP := True.intro; have hNE := True.intro; have hC := True.intro; repeat' first
        | with_reducible first | refine k_seq ?_ | refine t_seq ?_ | refine t_reg ?_ | refine t_nil ?_ | refine t_skip ?_ | refine k_blk ?_ | refine t_block ?_
        | refine ae_val ?_
        | refine ae_box ?_
        | ((with_reducible refine te_allocT z_134 rfl ?_); (intro la ha hn1; have hNE := And.intro hNE hn1))
        | refine a_cond ?_ ?_
        | (with_reducible intro hc; with_reducible exact Bool.noConfusion hc)
        | (with_reducible intro hc; have hC := And.intro hC hc))
    refine t_loopE (fun (k1 : Nat) (E1 : Nat → PV) (H1 : Hp) => ∃ (i : Nat), i + k1 = u.recs.length ∧ Bld la (slotsN u i) H1 ∧ E1 32 = .int .i64 (i : Int)) (u.recs.length) ⟨0, (by first | omega | rfl | assumption | (simp only [go_sem, cast0]; first | done | rfl | assumption | omega)), ?_, (by simp only [go_sem, cast0]; first | done | rfl)⟩ ?_
    · exact bld_new _ _ (by simp (maxDischargeDepth := 8) only [go_sem])
    rintro k1 E1 H1 hfr1 ⟨i, hi, hb, h1_32⟩
    have e1_1 := hfr1 1 rfl; have e1_2 := hfr1 2 rfl; have e1_4 := hfr1 4 rfl; have e1_30 := hfr1 30 rfl; have e1_31 := hfr1 31 rfl
    simp only [go_sem, cast0] at e1_1 e1_2 e1_4 e1_30 e1_31
    clear hfr1
    by_cases hi2 : i < u.recs.length
    · obtain ⟨s, hg, hdr⟩ := at_list hi2
      obtain ⟨t, hg2, hdr2⟩ := at_list (xs := u.there) (i := i) (by omega)
      have hlt := lt_int hi2
      have hlt2 : (i : Int) < (u.there.length : Int) := by omega
      have hw := wrap_next hi2 (by omega)
      have hge : (0 : Int) ≤ (i : Int) := by omega
      have hsl := hst i s t hg hg2
      have hq := slotAt_len hv hac i
      have hbl : (slotsN u i).length + (slotAt u i).length ≤ 140737488355328 := by
        have := slotsN_len hv hac i
        omega
      cases t with
      | true =>
        have h1 : PPure Try.prog 88 [.int .i64 ((i + 1 : Nat) : Int), .str s] (.str (sltF (i + 1) s)) := p88 (i + 1) s (by omega) (by simp at hsl; omega)
        have hsa : slotAt u i = sltF (i + 1) s := by simp [slotAt, hg, hg2]
        rw [hsa] at hq hbl
        (have hA := And.intro e1_1 (And.intro e1_2 (And.intro e1_4 (And.intro e1_30 (And.intro e1_31 (And.intro h1_32 (And.intro hlt (And.intro hge (And.intro hg (And.intro hg2 (And.intro hlt2 (hw))))))))))); have hP := And.intro h1 (True.intro); have hNE := True.intro; have hC := True.intro; repeat' first
            | with_reducible first | refine k_seq ?_ | refine t_seq ?_ | refine t_reg ?_ | refine t_nil ?_ | refine t_skip ?_ | refine t_block ?_
            | refine ae_val ?_
            | refine ae_callS ?_
            | refine a_cond ?_ ?_
            | (with_reducible intro hc; with_reducible exact Bool.noConfusion hc)
            | (with_reducible intro hc; have hC := And.intro hC hc))
        (first | ((with_reducible apply te_callG); (focus (simp (maxDischargeDepth := 8) only [go_sem, hNE, e1_1, e1_2, e1_4, e1_30, e1_31, h1_32]; first | done | exact rfl)); (focus (simp (maxDischargeDepth := 8) only [go_sem, hNE, e1_1, e1_2, e1_4, e1_30, e1_31, h1_32]; first | done | exact rfl))) | ((with_reducible apply te_callGB); (focus (simp (maxDischargeDepth := 8) only [go_sem, hNE, e1_1, e1_2, e1_4, e1_30, e1_31, h1_32]; first | done | exact rfl)); (focus (simp (maxDischargeDepth := 8) only [go_sem, hNE, e1_1, e1_2, e1_4, e1_30, e1_31, h1_32]; first | done | exact rfl))) | ((with_reducible apply me_callG); (focus (simp (maxDischargeDepth := 8) only [go_sem, hNE, e1_1, e1_2, e1_4, e1_30, e1_31, h1_32]; first | done | exact rfl)); (focus (simp (maxDischargeDepth := 8) only [go_sem, hNE, e1_1, e1_2, e1_4, e1_30, e1_31, h1_32]; first | done | exact rfl)); (focus (simp only [List.all_cons, List.all_nil, allocB, PV.isDef, go_sem, hNE, e1_1, e1_2, e1_4, e1_30, e1_31, h1_32]; first | done | exact rfl))) | ((with_reducible apply me_callGB); (focus (simp (maxDischargeDepth := 8) only [go_sem, hNE, e1_1, e1_2, e1_4, e1_30, e1_31, h1_32]; first | done | exact rfl)); (focus (simp (maxDischargeDepth := 8) only [go_sem, hNE, e1_1, e1_2, e1_4, e1_30, e1_31, h1_32]; first | done | exact rfl)); (focus (simp only [List.all_cons, List.all_nil, allocB, PV.isDef, go_sem, hNE, e1_1, e1_2, e1_4, e1_30, e1_31, h1_32]; first | done | exact rfl)))); refine p87k la _ _ _ hb hq.2 hbl ?_
        intro H2 hb2
        (have hA := And.intro e1_1 (And.intro e1_2 (And.intro e1_4 (And.intro e1_30 (And.intro e1_31 (h1_32))))); have hP := True.intro; have hNE := True.intro; have hC := True.intro; repeat' first
            | with_reducible first | refine k_seq ?_ | refine t_reg ?_ | refine t_nil ?_ | refine k_blk ?_
            | refine ae_val ?_)
        refine k_invE (k1 - 1) (by omega) ⟨i + 1, (by omega), ?_, (by simp only [go_sem, e1_1, e1_2, e1_4, e1_30, e1_31, h1_32, hw]; first | done | rfl)⟩
        rw [slotsN, hsa]; exact hb2
      | false =>
        have h1 : PPure Try.prog 89 [.int .i64 (u.width + 4)] (.str (List.replicate (u.width.toNat + 4) 0)) := by
          have := p89 (u.width.toNat + 4) (by omega)
          rwa [show ((u.width.toNat + 4 : Nat) : Int) = u.width + 4 by omega] at this
        have hsa : slotAt u i = List.replicate (u.width.toNat + 4) 0 := by simp [slotAt, hg2]
        rw [hsa] at hq hbl
        (have hA := And.intro e1_1 (And.intro e1_2 (And.intro e1_4 (And.intro e1_30 (And.intro e1_31 (And.intro h1_32 (And.intro hlt (And.intro hge (And.intro hg (And.intro hg2 (And.intro hlt2 (hw))))))))))); have hP := And.intro h1 (And.intro h62 (True.intro)); have hNE := True.intro; have hC := True.intro; repeat' first
            | with_reducible first | refine k_seq ?_ | refine t_seq ?_ | refine t_reg ?_ | refine t_nil ?_ | refine t_skip ?_ | refine t_block ?_
            | refine ae_val ?_
            | refine ae_callS ?_
            | refine a_cond ?_ ?_
            | (with_reducible intro hc; with_reducible exact Bool.noConfusion hc)
            | (with_reducible intro hc; have hC := And.intro hC hc))
        (first | ((with_reducible apply te_callG); (focus (simp (maxDischargeDepth := 8) only [go_sem, hNE, e1_1, e1_2, e1_4, e1_30, e1_31, h1_32]; first | done | exact rfl)); (focus (simp (maxDischargeDepth := 8) only [go_sem, hNE, e1_1, e1_2, e1_4, e1_30, e1_31, h1_32]; first | done | exact rfl))) | ((with_reducible apply te_callGB); (focus (simp (maxDischargeDepth := 8) only [go_sem, hNE, e1_1, e1_2, e1_4, e1_30, e1_31, h1_32]; first | done | exact rfl)); (focus (simp (maxDischargeDepth := 8) only [go_sem, hNE, e1_1, e1_2, e1_4, e1_30, e1_31, h1_32]; first | done | exact rfl))) | ((with_reducible apply me_callG); (focus (simp (maxDischargeDepth := 8) only [go_sem, hNE, e1_1, e1_2, e1_4, e1_30, e1_31, h1_32]; first | done | exact rfl)); (focus (simp (maxDischargeDepth := 8) only [go_sem, hNE, e1_1, e1_2, e1_4, e1_30, e1_31, h1_32]; first | done | exact rfl)); (focus (simp only [List.all_cons, List.all_nil, allocB, PV.isDef, go_sem, hNE, e1_1, e1_2, e1_4, e1_30, e1_31, h1_32]; first | done | exact rfl))) | ((with_reducible apply me_callGB); (focus (simp (maxDischargeDepth := 8) only [go_sem, hNE, e1_1, e1_2, e1_4, e1_30, e1_31, h1_32]; first | done | exact rfl)); (focus (simp (maxDischargeDepth := 8) only [go_sem, hNE, e1_1, e1_2, e1_4, e1_30, e1_31, h1_32]; first | done | exact rfl)); (focus (simp only [List.all_cons, List.all_nil, allocB, PV.isDef, go_sem, hNE, e1_1, e1_2, e1_4, e1_30, e1_31, h1_32]; first | done | exact rfl)))); refine p87k la _ _ _ hb hq.2 hbl ?_
        intro H2 hb2
        (have hA := And.intro e1_1 (And.intro e1_2 (And.intro e1_4 (And.intro e1_30 (And.intro e1_31 (h1_32))))); have hP := True.intro; have hNE := True.intro; have hC := True.intro; repeat' first
            | with_reducible first | refine k_seq ?_ | refine t_reg ?_ | refine t_nil ?_ | refine k_blk ?_
            | refine ae_val ?_)
        refine k_invE (k1 - 1) (by omega) ⟨i + 1, (by omega), ?_, (by simp only [go_sem, e1_1, e1_2, e1_4, e1_30, e1_31, h1_32, hw]; first | done | rfl)⟩
        rw [slotsN, hsa]; exact hb2
    · have hlt := nlt_int hi2
      rw [show i = u.recs.length by omega] at hb
      (have hA := And.intro e1_1 (And.intro e1_2 (And.intro e1_4 (And.intro e1_30 (And.intro e1_31 (And.intro h1_32 (hlt)))))); have hP := True.intro; have hNE := True.intro; have hC := True.intro; repeat' first
          | with_reducible first | refine k_seq ?_ | refine t_seq ?_ | refine t_reg ?_ | refine t_nil ?_ | refine t_exit ?_ | refine k_seq_exit ?_ | refine k_blk_exit ?_ | refine k_invE_exit ?_
          | refine ae_val ?_
          | refine a_cond ?_ ?_
          | (with_reducible intro hc; with_reducible exact Bool.noConfusion hc)
          | (with_reducible intro hc; have hC := And.intro hC hc))
      (first | ((with_reducible apply te_callG); (focus (simp (maxDischargeDepth := 8) only [go_sem, hNE, e1_1, e1_2, e1_4, e1_30, e1_31, h1_32]; first | done | exact rfl)); (focus (simp (maxDischargeDepth := 8) only [go_sem, hNE, e1_1, e1_2, e1_4, e1_30, e1_31, h1_32]; first | done | exact rfl))) | ((with_reducible apply te_callGB); (focus (simp (maxDischargeDepth := 8) only [go_sem, hNE, e1_1, e1_2, e1_4, e1_30, e1_31, h1_32]; first | done | exact rfl)); (focus (simp (maxDischargeDepth := 8) only [go_sem, hNE, e1_1, e1_2, e1_4, e1_30, e1_31, h1_32]; first | done | exact rfl))) | ((with_reducible apply me_callG); (focus (simp (maxDischargeDepth := 8) only [go_sem, hNE, e1_1, e1_2, e1_4, e1_30, e1_31, h1_32]; first | done | exact rfl)); (focus (simp (maxDischargeDepth := 8) only [go_sem, hNE, e1_1, e1_2, e1_4, e1_30, e1_31, h1_32]; first | done | exact rfl)); (focus (simp only [List.all_cons, List.all_nil, allocB, PV.isDef, go_sem, hNE, e1_1, e1_2, e1_4, e1_30, e1_31, h1_32]; first | done | exact rfl))) | ((with_reducible apply me_callGB); (focus (simp (maxDischargeDepth := 8) only [go_sem, hNE, e1_1, e1_2, e1_4, e1_30, e1_31, h1_32]; first | done | exact rfl)); (focus (simp (maxDischargeDepth := 8) only [go_sem, hNE, e1_1, e1_2, e1_4, e1_30, e1_31, h1_32]; first | done | exact rfl)); (focus (simp only [List.all_cons, List.all_nil, allocB, PV.isDef, go_sem, hNE, e1_1, e1_2, e1_4, e1_30, e1_31, h1_32]; first | done | exact rfl)))); refine p90k la _ _ hb ?_
      (have hA := And.intro e1_1 (And.intro e1_2 (And.intro e1_4 (And.intro e1_30 (And.intro e1_31 (h1_32))))); have hP := True.intro; have hNE := True.intro; have hC := True.intro; repeat' first
          | with_reducible first | refine k_seq ?_ | refine t_nil ?_ | refine t_ret ?_
          | refine ae_val ?_)
      (first | apply pend rs50 | apply pendN rs50); (focus (simp only [go_sem, e1_1, e1_2, e1_4, e1_30, e1_31, h1_32]; first | done | exact rfl)); (focus (simp only [go_sem, e1_1, e1_2, e1_4, e1_30, e1_31, h1_32]; first | done | exact rfl))
  · have e1 : bytesF u = u.bytes := by simp [bytesF, ha]
    rw [e1]
    simp only [encU, ha]
    (refine ppure_of_T ok50 (by simp only [List.length_cons, List.length_nil]; decide) ?_; refine t_seq ?_)
    (have hA := True.intro; have hP := True.intro; have hNE := True.intro; have hC := True.intro; repeat' first
        | with_reducible first | refine k_seq ?_ | refine t_seq ?_ | refine t_reg ?_ | refine t_nil ?_ | refine t_ret ?_ | refine k_seq_ret ?_ | refine k_blk_ret ?_ | refine t_block ?_
        | refine ae_val ?_
        | refine ae_box ?_
        | refine a_cond ?_ ?_
        | (with_reducible intro hc; with_reducible exact Bool.noConfusion hc)
        | (with_reducible intro hc; have hC := And.intro hC hc))
    (first | apply pend rs50 | apply pendN rs50); (focus (simp only [go_sem]; first | done | exact rfl)); (focus (simp only [go_sem]; first | done | exact rfl))
end Go.Proofs.Ythdgdngdfijfhaa
namespace Go.Proofs.Ythdgdngdfijfhaa
open Go.RowKit Go.Proofs
set_option linter.unusedVariables false
set_option linter.unusedSimpArgs false
attribute [local irreducible] PPure CallN Tops TopsDm T
def isSlot (w n : Nat) (own : List UInt8) : Bool := (!(own == List.replicate (w + 4) 0)) && own == sltF n (own.take w)
def slotOf (w n : Nat) (own : List UInt8) : List UInt8 × Bool := if isSlot w n own = true then (own.take w, true) else ([], false)
def scanL (w : Nat) : Nat → Nat → List UInt8 → List (List UInt8 × Bool)
  | 0, _, _ => []
  | f + 1, n, s => if s.length < w + 4 then [] else slotOf w n (s.take (w + 4)) :: scanL w f (n + 1) (s.drop (w + 4))
def trimN (R : List (List UInt8 × Bool)) : Nat → Nat
  | 0 => 0
  | m + 1 => if (R[m]?).map (·.2) = some true then m + 1 else trimN R m
theorem scanL_len (w : Nat) : ∀ (f n : Nat) (s : List UInt8), (scanL w f n s).length ≤ f
  | 0, _, _ => by simp [scanL]
  | f + 1, n, s => by
    rw [scanL]; split
    · simp
    · have := scanL_len w f (n + 1) (s.drop (w + 4)); simp; omega
def odF (w : Nat) (s : List UInt8) : Un :=
  let R := scanL w 60 1 s
  let M := R.take (trimN R R.length)
  ⟨1, w, M.map (·.1), M.map (·.2), [], false, 0⟩
def encR1 (x : List UInt8 × Bool) : PV := .str x.1
def encR2 (x : List UInt8 × Bool) : PV := .bool x.2
theorem cl1 (xs : List (List UInt8 × Bool)) : xs.all (closedB false ∘ encR1) = true := cl_map (fun _ => rfl) xs
theorem cl2 (xs : List (List UInt8 × Bool)) : xs.all (closedB false ∘ encR2) = true := cl_map (fun _ => rfl) xs
theorem wd1 (xs : List (List UInt8 × Bool)) : widthB 1 (xs.map encR1) = true := width_map (e := encR1) (fun _ => rfl) xs
theorem wd2 (xs : List (List UInt8 × Bool)) : widthB 1 (xs.map encR2) = true := width_map (e := encR2) (fun _ => rfl) xs
attribute [go_sem] cl1 cl2 wd1 wd2
theorem mapR1 (L : List (List UInt8 × Bool)) : (L.map (fun x => x.1)).map encS = L.map encR1 := by simp only [List.map_map]; rfl
theorem mapR2 (L : List (List UInt8 × Bool)) : (L.map (fun x => x.2)).map encB = L.map encR2 := by simp only [List.map_map]; rfl
attribute [local go_sem] encR2 List.getElem?_map Option.map_some in
set_option maxHeartbeats 4000000 in
theorem p61 (w : Nat) (s0 : List UInt8) (hw1 : 1 ≤ w) (hw2 : w ≤ 200) (hl : s0.length ≤ 30000) : PPure Try.prog 61 [.int .i64 (w : Int), .str s0] (encU (odF w s0)) := by
  obtain ⟨R, hR⟩ : ∃ R, scanL w 60 1 s0 = R := ⟨_, rfl⟩
  have hRl : R.length ≤ 60 := by rw [← hR]; exact scanL_len _ _ _ _
  have e0 : odF w s0 = ⟨1, w, (R.take (trimN R R.length)).map (·.1), (R.take (trimN R R.length)).map (·.2), [], false, 0⟩ := by rw [odF, hR]
  rw [e0]
  have h62 := p62 ⟨1, w, [], [], [], false, 0⟩ ⟨by show (-1000000 : Int) ≤ (w : Int); omega, by show (w : Int) ≤ 1000000; omega⟩
  simp only [encU, List.map_nil] at h62 ⊢
  have w4 : ((w : Int) + 4) = ((w + 4 : Nat) : Int) := by omega
  rw [w4] at h62
  (refine ppure_of_T ok61 (by simp only [List.length_cons, List.length_nil]; decide) ?_; refine t_seq ?_)
  (have hA := True.intro; have hP := And.intro h62 (True.intro); have hNE := True.intro; have hC := True.intro; repeat' first
      | with_reducible first | refine k_seq ?_ | refine t_seq ?_ | refine t_reg ?_ | refine t_nil ?_ | refine t_block ?_
      | refine ae_val ?_
      | refine ae_callS ?_
      | (refine ae_alloc ?_; intro la ha hn1; have hNE := And.intro hNE hn1)
      | refine ae_store ?_)
  rename_i l4 a4 n4 x4
  obtain ⟨lu, h5⟩ : ∃ l, l = la := ⟨la, rfl⟩
  subst h5
  refine t_loopX (fun (k0 : Nat) (E0 : Nat → PV) (H0 : Hp) => ∃ (s : List UInt8) (xs : List (List UInt8 × Bool)) (lr : Lab) (lt : Lab), xs.length + k0 = 60 ∧ s.length ≤ 30000 ∧ xs ++ scanL w (60 - xs.length) (xs.length + 1) s = R ∧ (lu = l4) = False ∧ (l4 = lu) = False ∧ (lu = lr) = False ∧ (lr = lu) = False ∧ (l4 = lr) = False ∧ (lr = l4) = False ∧ (lu = lt) = False ∧ (lt = lu) = False ∧ (l4 = lt) = False ∧ (lt = l4) = False ∧ (lr = lt) = False ∧ (lt = lr) = False ∧ E0 1 = .str s ∧ E0 7 = .int .i64 ((xs.length + 1 : Nat) : Int) ∧ H0 = hp [(lu, .row true 7 ([.agg [.int .i64 1, .int .i64 w, .arr lr 1 0 xs.length, .arr lt 1 0 xs.length, .str [], .bool false, .int .i64 0]])), (l4, .row true 7 ([zU])), (lr, .row true 1 (xs.map encR1)), (lt, .row true 1 (xs.map encR2))]) (60) ?_ ?_
  intro Ng
  obtain ⟨g_lr, g_lr1, g_lr2⟩ := ghost_new Ng [lu, l4]
  have g_lr3 := (And.intro (g_lr2 lu (by simp only [List.mem_cons, List.mem_nil_iff, true_or, or_true])) (g_lr2 l4 (by simp only [List.mem_cons, List.mem_nil_iff, true_or, or_true])))
  obtain ⟨g_lt, g_lt1, g_lt2⟩ := ghost_new Ng [lu, l4, g_lr]
  have g_lt3 := (And.intro (g_lt2 lu (by simp only [List.mem_cons, List.mem_nil_iff, true_or, or_true])) (And.intro (g_lt2 l4 (by simp only [List.mem_cons, List.mem_nil_iff, true_or, or_true])) (g_lt2 g_lr (by simp only [List.mem_cons, List.mem_nil_iff, true_or, or_true]))))
  refine ⟨_, _, wkE_id, (rowsok_cons (by first | (exact rowok_eq (by simp (maxDischargeDepth := 8) only [go_sem, cast0, zU, hNE, g_lr3, g_lt3, List.length_append, List.length_cons, List.length_nil, Nat.zero_add]; first | done | rfl)) | exact (rowok_wv (by simp (maxDischargeDepth := 8) only [go_sem, cast0, zU, hNE, g_lr3, g_lt3, List.length_append, List.length_cons, List.length_nil, Nat.zero_add]; rfl) (by (try simp (maxDischargeDepth := 8) only [go_sem, cast0, zU, hNE, g_lr3, g_lt3, List.length_append, List.length_cons, List.length_nil, Nat.zero_add]); repeat (first | exact WvL.refl _ | exact WvL.nil | refine WvL.cons (by first | exact Wv.refl _ | exact Wv.nil _ _ _ _ rfl | (refine Wv.aggL ?_; repeat (first | exact WvL.nil | refine WvL.cons (by first | exact Wv.refl _ | exact Wv.nil _ _ _ _ rfl) ?_))) ?_)))) (rowsok_cons (rowok_eq (by simp (maxDischargeDepth := 8) only [go_sem, cast0, zU, hNE, g_lr3, g_lt3, List.length_append, List.length_cons, List.length_nil, Nat.zero_add]; first | done | rfl)) (rowsok_cons (rowok_ghost g_lr1) (rowsok_cons (rowok_ghost g_lt1) rowsok_nil)))), s0, [], g_lr, g_lt, (by first | omega | rfl | assumption | (simp (maxDischargeDepth := 8) only [go_sem, cast0, zU, hNE, g_lr3, g_lt3]; first | done | rfl | assumption | omega)), (by first | omega | rfl | assumption | (simp (maxDischargeDepth := 8) only [go_sem, cast0, zU, hNE, g_lr3, g_lt3]; first | done | rfl | assumption | omega)), ?_, (by simp (maxDischargeDepth := 8) only [go_sem, cast0, zU, hNE, g_lr3, g_lt3]), (by simp (maxDischargeDepth := 8) only [go_sem, cast0, zU, hNE, g_lr3, g_lt3]), (by simp (maxDischargeDepth := 8) only [go_sem, cast0, zU, hNE, g_lr3, g_lt3]), (by simp (maxDischargeDepth := 8) only [go_sem, cast0, zU, hNE, g_lr3, g_lt3]), (by simp (maxDischargeDepth := 8) only [go_sem, cast0, zU, hNE, g_lr3, g_lt3]), (by simp (maxDischargeDepth := 8) only [go_sem, cast0, zU, hNE, g_lr3, g_lt3]), (by simp (maxDischargeDepth := 8) only [go_sem, cast0, zU, hNE, g_lr3, g_lt3]), (by simp (maxDischargeDepth := 8) only [go_sem, cast0, zU, hNE, g_lr3, g_lt3]), (by simp (maxDischargeDepth := 8) only [go_sem, cast0, zU, hNE, g_lr3, g_lt3]), (by simp (maxDischargeDepth := 8) only [go_sem, cast0, zU, hNE, g_lr3, g_lt3]), (by simp (maxDischargeDepth := 8) only [go_sem, cast0, zU, hNE, g_lr3, g_lt3]), (by simp (maxDischargeDepth := 8) only [go_sem, cast0, zU, hNE, g_lr3, g_lt3]), (by simp (maxDischargeDepth := 8) only [go_sem, cast0, zU, hNE, g_lr3, g_lt3, List.length_append, List.length_cons, List.length_nil, Nat.zero_add]; first | done | rfl), (by simp (maxDischargeDepth := 8) only [go_sem, cast0, zU, hNE, g_lr3, g_lt3, List.length_append, List.length_cons, List.length_nil, Nat.zero_add]; first | done | rfl), rfl⟩
  · exact hR
  rintro k0 E0 H0 hfr0 ⟨s, xs, lr, lt, hk, hsl, hr, d0_0, d0_1, d0_2, d0_3, d0_4, d0_5, d0_6, d0_7, d0_8, d0_9, d0_10, d0_11, h0_1, h0_7, rfl⟩
  have e0_0 := hfr0 0 rfl; have e0_4 := hfr0 4 rfl; have e0_5 := hfr0 5 rfl; have e0_6 := hfr0 6 rfl
  simp (maxDischargeDepth := 8) only [go_sem, cast0, zU, hNE] at e0_0 e0_4 e0_5 e0_6
  clear hfr0
  have d0 := And.intro d0_0 (And.intro d0_1 (And.intro d0_2 (And.intro d0_3 (And.intro d0_4 (And.intro d0_5 (And.intro d0_6 (And.intro d0_7 (And.intro d0_8 (And.intro d0_9 (And.intro d0_10 (d0_11)))))))))))
  simp only [zU]
  by_cases hgo : w + 4 ≤ s.length ∧ xs.length < 60
  · obtain ⟨g1, g2⟩ := hgo
    have q1 : ((w + 4 : Nat) : Int) ≤ (s.length : Int) := by omega
    have q2 : decide (((xs.length + 1 : Nat) : Int) ≤ 60) = true := by simp; omega
    have q3 : decide (((w + 4 : Nat) : Int) ≤ (s.length : Int)) = true := by simp; omega
    have hw := wrap_at (a := xs.length + 1) (b := 100) (by omega) (by omega)
    have h89 : PPure Try.prog 89 [.int .i64 ((w + 4 : Nat) : Int)] (.str (List.replicate (w + 4) 0)) := p89 (w + 4) (by omega)
    obtain ⟨own, ho⟩ : ∃ own, s.take (w + 4) = own := ⟨_, rfl⟩
    have hol : own.length = w + 4 := by rw [← ho]; simp; omega
    have h88 : PPure Try.prog 88 [.int .i64 ((xs.length + 1 : Nat) : Int), .str (own.take w)] (.str (sltF (xs.length + 1) (own.take w))) := p88 _ _ (by omega) (by simp; omega)
    have hr2 : (xs ++ [slotOf w (xs.length + 1) own]) ++ scanL w (60 - (xs ++ [slotOf w (xs.length + 1) own]).length) ((xs ++ [slotOf w (xs.length + 1) own]).length + 1) (s.drop (w + 4)) = R := by
      rw [show 60 - xs.length = (60 - (xs.length + 1)) + 1 by omega, scanL, if_neg (show ¬ s.length < w + 4 by omega), ho] at hr
      simpa using hr
    have b1 : (0 : Int) ≤ (w : Int) := by omega
    have b2 : (w : Int) ≤ (own.length : Int) := by omega
    have b3 : (0 : Int) ≤ ((w + 4 : Nat) : Int) := by omega
    have hd0 : s.drop (w + 4) = s.drop (w + 4) := rfl
    cases hz : (own == List.replicate (w + 4) 0) with
    | true =>
      have e1 : slotOf w (xs.length + 1) own = ([], false) := by simp [slotOf, isSlot, hz]
      rw [e1] at hr2
      (have hA := And.intro e0_0 (And.intro e0_4 (And.intro e0_5 (And.intro e0_6 (And.intro h0_1 (And.intro h0_7 (And.intro d0 (And.intro q1 (And.intro q2 (And.intro q3 (And.intro ho (And.intro hz (And.intro b1 (And.intro b2 (b3)))))))))))))); have hP := And.intro h89 (And.intro h88 (True.intro)); have hNE := True.intro; have hC := True.intro; repeat' first
          | with_reducible first | refine k_seq ?_ | refine t_seq ?_ | refine t_reg ?_ | refine t_nil ?_ | refine t_skip ?_ | refine k_blk ?_ | refine t_block ?_
          | refine ae_val ?_
          | refine ae_callS ?_
          | refine ae_gval ?_
          | refine ae_gcallS ?_
          | refine ae_store ?_
          | ((with_reducible apply te_appendB); (with_reducible exact app_22; with_reducible exact c_9); (focus (simp (maxDischargeDepth := 8) only [go_sem, hNE, hA]; first | done | exact rfl)); (focus (simp (maxDischargeDepth := 8) only [go_sem, hNE, hA]; first | done | exact rfl)); (focus (simp (maxDischargeDepth := 8) only [go_sem, hNE, hA, roomB, List.length_take, List.length_append]; first | done | omega)); (focus (simp (maxDischargeDepth := 8) only [go_sem, hNE, hA]; first | done | exact rfl)); (focus (simp (maxDischargeDepth := 8) only [go_sem, hNE, hA]; done)); (focus (simp (maxDischargeDepth := 8) only [go_sem, hNE, hA, roomB, List.length_take, List.length_append]; first | done | omega)); (intro la ha hn1; have hNE := And.intro hNE hn1))
          | ((with_reducible apply te_appendB); (with_reducible exact app_23; with_reducible exact c_4); (focus (simp (maxDischargeDepth := 8) only [go_sem, hNE, hA]; first | done | exact rfl)); (focus (simp (maxDischargeDepth := 8) only [go_sem, hNE, hA]; first | done | exact rfl)); (focus (simp (maxDischargeDepth := 8) only [go_sem, hNE, hA, roomB, List.length_take, List.length_append]; first | done | omega)); (focus (simp (maxDischargeDepth := 8) only [go_sem, hNE, hA]; first | done | exact rfl)); (focus (simp (maxDischargeDepth := 8) only [go_sem, hNE, hA]; done)); (focus (simp (maxDischargeDepth := 8) only [go_sem, hNE, hA, roomB, List.length_take, List.length_append]; first | done | omega)); (intro la ha hn1; have hNE := And.intro hNE hn1))
          | refine a_cond ?_ ?_
          | (with_reducible intro hc; with_reducible exact Bool.noConfusion hc)
          | (with_reducible intro hc; have hC := And.intro hC hc))
      rename_i lt2 _ _ _
      refine k_invX (k0 - 1) (by omega) ?_
      intro Ng
      refine ⟨_, _, wkE_id, (rowsok_cons (rowok_eq (by simp (maxDischargeDepth := 8) only [go_sem, e0_0, e0_4, e0_5, e0_6, h0_1, h0_7, d0, hw, encR1, encR2, List.map_append, hNE, List.length_append, List.length_cons, List.length_nil, Nat.zero_add]; first | done | rfl)) (rowsok_cons (rowok_eq (by simp (maxDischargeDepth := 8) only [go_sem, e0_0, e0_4, e0_5, e0_6, h0_1, h0_7, d0, hw, encR1, encR2, List.map_append, hNE, List.length_append, List.length_cons, List.length_nil, Nat.zero_add]; first | done | rfl)) (rowsok_cons (rowok_eq (by simp (maxDischargeDepth := 8) only [go_sem, e0_0, e0_4, e0_5, e0_6, h0_1, h0_7, d0, hw, encR1, encR2, List.map_append, hNE, List.length_append, List.length_cons, List.length_nil, Nat.zero_add]; first | done | rfl)) (rowsok_cons (rowok_eq (by simp (maxDischargeDepth := 8) only [go_sem, e0_0, e0_4, e0_5, e0_6, h0_1, h0_7, d0, hw, encR1, encR2, List.map_append, hNE, List.length_append, List.length_cons, List.length_nil, Nat.zero_add]; first | done | rfl)) rowsok_nil)))), s.drop (w + 4), xs ++ [([], false)], la, lt2, (by first | omega | (simp only [List.length_append, List.length_cons, List.length_nil, List.length_drop, List.length_take, List.length_map]; omega)), (by first | omega | (simp only [List.length_append, List.length_cons, List.length_nil, List.length_drop, List.length_take, List.length_map]; omega)), ?_, (by simp (maxDischargeDepth := 8) only [go_sem, e0_0, e0_4, e0_5, e0_6, h0_1, h0_7, d0, hw, encR1, encR2, List.map_append, hNE]), (by simp (maxDischargeDepth := 8) only [go_sem, e0_0, e0_4, e0_5, e0_6, h0_1, h0_7, d0, hw, encR1, encR2, List.map_append, hNE]), (by simp (maxDischargeDepth := 8) only [go_sem, e0_0, e0_4, e0_5, e0_6, h0_1, h0_7, d0, hw, encR1, encR2, List.map_append, hNE]), (by simp (maxDischargeDepth := 8) only [go_sem, e0_0, e0_4, e0_5, e0_6, h0_1, h0_7, d0, hw, encR1, encR2, List.map_append, hNE]), (by simp (maxDischargeDepth := 8) only [go_sem, e0_0, e0_4, e0_5, e0_6, h0_1, h0_7, d0, hw, encR1, encR2, List.map_append, hNE]), (by simp (maxDischargeDepth := 8) only [go_sem, e0_0, e0_4, e0_5, e0_6, h0_1, h0_7, d0, hw, encR1, encR2, List.map_append, hNE]), (by simp (maxDischargeDepth := 8) only [go_sem, e0_0, e0_4, e0_5, e0_6, h0_1, h0_7, d0, hw, encR1, encR2, List.map_append, hNE]), (by simp (maxDischargeDepth := 8) only [go_sem, e0_0, e0_4, e0_5, e0_6, h0_1, h0_7, d0, hw, encR1, encR2, List.map_append, hNE]), (by simp (maxDischargeDepth := 8) only [go_sem, e0_0, e0_4, e0_5, e0_6, h0_1, h0_7, d0, hw, encR1, encR2, List.map_append, hNE]), (by simp (maxDischargeDepth := 8) only [go_sem, e0_0, e0_4, e0_5, e0_6, h0_1, h0_7, d0, hw, encR1, encR2, List.map_append, hNE]), (by simp (maxDischargeDepth := 8) only [go_sem, e0_0, e0_4, e0_5, e0_6, h0_1, h0_7, d0, hw, encR1, encR2, List.map_append, hNE]), (by simp (maxDischargeDepth := 8) only [go_sem, e0_0, e0_4, e0_5, e0_6, h0_1, h0_7, d0, hw, encR1, encR2, List.map_append, hNE]), (by simp (maxDischargeDepth := 8) only [go_sem, e0_0, e0_4, e0_5, e0_6, h0_1, h0_7, d0, hw, encR1, encR2, List.map_append, hNE, List.length_append, List.length_cons, List.length_nil, Nat.zero_add]; first | done | rfl), (by simp (maxDischargeDepth := 8) only [go_sem, e0_0, e0_4, e0_5, e0_6, h0_1, h0_7, d0, hw, encR1, encR2, List.map_append, hNE, List.length_append, List.length_cons, List.length_nil, Nat.zero_add]; first | done | rfl), rfl⟩
      exact hr2
    | false =>
      cases hz2 : (own == sltF (xs.length + 1) (own.take w)) with
      | true =>
        have e1 : slotOf w (xs.length + 1) own = (own.take w, true) := by simp [slotOf, isSlot, hz, hz2]
        rw [e1] at hr2
        (have hA := And.intro e0_0 (And.intro e0_4 (And.intro e0_5 (And.intro e0_6 (And.intro h0_1 (And.intro h0_7 (And.intro d0 (And.intro q1 (And.intro q2 (And.intro q3 (And.intro ho (And.intro hz (And.intro hz2 (And.intro b1 (And.intro b2 (b3))))))))))))))); have hP := And.intro h89 (And.intro h88 (True.intro)); have hNE := True.intro; have hC := True.intro; repeat' first
            | ((with_reducible apply te_drwH lr lt); (focus (simp (maxDischargeDepth := 8) only [effFl, List.map_cons, List.map_nil]; exact rfl)); (focus decide +kernel))
            | with_reducible first | refine k_seq ?_ | refine t_seq ?_ | refine t_reg ?_ | refine t_nil ?_ | refine t_skip ?_ | refine k_blk ?_ | refine t_block ?_ | refine m_nil ?_
            | refine ae_val ?_
            | refine ae_callS ?_
            | refine ae_gval ?_
            | refine ae_gcallS ?_
            | refine be_val ?_
            | ((with_reducible apply me_appendQ); (with_reducible exact app_22; with_reducible exact c_9); (focus (simp (maxDischargeDepth := 8) only [go_sem, hNE, hA]; first | done | exact rfl)); (focus (simp (maxDischargeDepth := 8) only [go_sem, hNE, hA]; first | done | exact rfl)); (focus (simp (maxDischargeDepth := 8) only [go_sem, hNE, hA]; first | done | exact rfl)); (focus (simp (maxDischargeDepth := 8) only [go_sem, hNE, hA, roomB, List.length_take, List.length_append]; first | done | omega)); (focus (simp (maxDischargeDepth := 8) only [go_sem, hNE, hA]; first | done | exact rfl)); (focus (simp (maxDischargeDepth := 8) only [go_sem, hNE, hA]; done)); (focus (simp (maxDischargeDepth := 8) only [go_sem, hNE, hA, roomB, List.length_take, List.length_append]; first | done | omega)); (intro la ha; have hn1 := or_ne ha; have hNE := And.intro hNE hn1))
            | refine ae_store ?_
            | ((with_reducible apply te_appendB); (with_reducible exact app_23; with_reducible exact c_4); (focus (simp (maxDischargeDepth := 8) only [go_sem, hNE, hA]; first | done | exact rfl)); (focus (simp (maxDischargeDepth := 8) only [go_sem, hNE, hA]; first | done | exact rfl)); (focus (simp (maxDischargeDepth := 8) only [go_sem, hNE, hA, roomB, List.length_take, List.length_append]; first | done | omega)); (focus (simp (maxDischargeDepth := 8) only [go_sem, hNE, hA]; first | done | exact rfl)); (focus (simp (maxDischargeDepth := 8) only [go_sem, hNE, hA]; done)); (focus (simp (maxDischargeDepth := 8) only [go_sem, hNE, hA, roomB, List.length_take, List.length_append]; first | done | omega)); (intro la ha hn1; have hNE := And.intro hNE hn1))
            | refine be_store ?_
            | refine a_cond ?_ ?_
            | (with_reducible intro hc; with_reducible exact Bool.noConfusion hc)
            | (with_reducible intro hc; have hC := And.intro hC hc))
        rename_i lt2 _ _ _
        refine k_invX (k0 - 1) (by omega) ?_
        intro Ng
        refine ⟨_, _, wkE_id, (rowsok_cons (rowok_eq (by simp (maxDischargeDepth := 8) only [go_sem, e0_0, e0_4, e0_5, e0_6, h0_1, h0_7, d0, hw, encR1, encR2, List.map_append, hNE, List.length_append, List.length_cons, List.length_nil, Nat.zero_add]; first | done | rfl)) (rowsok_cons (rowok_eq (by simp (maxDischargeDepth := 8) only [go_sem, e0_0, e0_4, e0_5, e0_6, h0_1, h0_7, d0, hw, encR1, encR2, List.map_append, hNE, List.length_append, List.length_cons, List.length_nil, Nat.zero_add]; first | done | rfl)) (rowsok_cons (rowok_eq (by simp (maxDischargeDepth := 8) only [go_sem, e0_0, e0_4, e0_5, e0_6, h0_1, h0_7, d0, hw, encR1, encR2, List.map_append, hNE, List.length_append, List.length_cons, List.length_nil, Nat.zero_add]; first | done | rfl)) (rowsok_cons (rowok_eq (by simp (maxDischargeDepth := 8) only [go_sem, e0_0, e0_4, e0_5, e0_6, h0_1, h0_7, d0, hw, encR1, encR2, List.map_append, hNE, List.length_append, List.length_cons, List.length_nil, Nat.zero_add]; first | done | rfl)) rowsok_nil)))), s.drop (w + 4), xs ++ [(own.take w, true)], la, lt2, (by first | omega | (simp only [List.length_append, List.length_cons, List.length_nil, List.length_drop, List.length_take, List.length_map]; omega)), (by first | omega | (simp only [List.length_append, List.length_cons, List.length_nil, List.length_drop, List.length_take, List.length_map]; omega)), ?_, (by simp (maxDischargeDepth := 8) only [go_sem, e0_0, e0_4, e0_5, e0_6, h0_1, h0_7, d0, hw, encR1, encR2, List.map_append, hNE]), (by simp (maxDischargeDepth := 8) only [go_sem, e0_0, e0_4, e0_5, e0_6, h0_1, h0_7, d0, hw, encR1, encR2, List.map_append, hNE]), (by simp (maxDischargeDepth := 8) only [go_sem, e0_0, e0_4, e0_5, e0_6, h0_1, h0_7, d0, hw, encR1, encR2, List.map_append, hNE]), (by simp (maxDischargeDepth := 8) only [go_sem, e0_0, e0_4, e0_5, e0_6, h0_1, h0_7, d0, hw, encR1, encR2, List.map_append, hNE]), (by simp (maxDischargeDepth := 8) only [go_sem, e0_0, e0_4, e0_5, e0_6, h0_1, h0_7, d0, hw, encR1, encR2, List.map_append, hNE]), (by simp (maxDischargeDepth := 8) only [go_sem, e0_0, e0_4, e0_5, e0_6, h0_1, h0_7, d0, hw, encR1, encR2, List.map_append, hNE]), (by simp (maxDischargeDepth := 8) only [go_sem, e0_0, e0_4, e0_5, e0_6, h0_1, h0_7, d0, hw, encR1, encR2, List.map_append, hNE]), (by simp (maxDischargeDepth := 8) only [go_sem, e0_0, e0_4, e0_5, e0_6, h0_1, h0_7, d0, hw, encR1, encR2, List.map_append, hNE]), (by simp (maxDischargeDepth := 8) only [go_sem, e0_0, e0_4, e0_5, e0_6, h0_1, h0_7, d0, hw, encR1, encR2, List.map_append, hNE]), (by simp (maxDischargeDepth := 8) only [go_sem, e0_0, e0_4, e0_5, e0_6, h0_1, h0_7, d0, hw, encR1, encR2, List.map_append, hNE]), (by simp (maxDischargeDepth := 8) only [go_sem, e0_0, e0_4, e0_5, e0_6, h0_1, h0_7, d0, hw, encR1, encR2, List.map_append, hNE]), (by simp (maxDischargeDepth := 8) only [go_sem, e0_0, e0_4, e0_5, e0_6, h0_1, h0_7, d0, hw, encR1, encR2, List.map_append, hNE]), (by simp (maxDischargeDepth := 8) only [go_sem, e0_0, e0_4, e0_5, e0_6, h0_1, h0_7, d0, hw, encR1, encR2, List.map_append, hNE, List.length_append, List.length_cons, List.length_nil, Nat.zero_add]; first | done | rfl), (by simp (maxDischargeDepth := 8) only [go_sem, e0_0, e0_4, e0_5, e0_6, h0_1, h0_7, d0, hw, encR1, encR2, List.map_append, hNE, List.length_append, List.length_cons, List.length_nil, Nat.zero_add]; first | done | rfl), rfl⟩
        exact hr2
      | false =>
        have e1 : slotOf w (xs.length + 1) own = ([], false) := by simp [slotOf, isSlot, hz, hz2]
        rw [e1] at hr2
        (have hA := And.intro e0_0 (And.intro e0_4 (And.intro e0_5 (And.intro e0_6 (And.intro h0_1 (And.intro h0_7 (And.intro d0 (And.intro q1 (And.intro q2 (And.intro q3 (And.intro ho (And.intro hz (And.intro hz2 (And.intro b1 (And.intro b2 (b3))))))))))))))); have hP := And.intro h89 (And.intro h88 (True.intro)); have hNE := True.intro; have hC := True.intro; repeat' first
            | with_reducible first | refine k_seq ?_ | refine t_seq ?_ | refine t_reg ?_ | refine t_nil ?_ | refine t_skip ?_ | refine k_blk ?_ | refine t_block ?_
            | refine ae_val ?_
            | refine ae_callS ?_
            | refine ae_gval ?_
            | refine ae_gcallS ?_
            | refine ae_store ?_
            | ((with_reducible apply te_appendB); (with_reducible exact app_22; with_reducible exact c_9); (focus (simp (maxDischargeDepth := 8) only [go_sem, hNE, hA]; first | done | exact rfl)); (focus (simp (maxDischargeDepth := 8) only [go_sem, hNE, hA]; first | done | exact rfl)); (focus (simp (maxDischargeDepth := 8) only [go_sem, hNE, hA, roomB, List.length_take, List.length_append]; first | done | omega)); (focus (simp (maxDischargeDepth := 8) only [go_sem, hNE, hA]; first | done | exact rfl)); (focus (simp (maxDischargeDepth := 8) only [go_sem, hNE, hA]; done)); (focus (simp (maxDischargeDepth := 8) only [go_sem, hNE, hA, roomB, List.length_take, List.length_append]; first | done | omega)); (intro la ha hn1; have hNE := And.intro hNE hn1))
            | ((with_reducible apply te_appendB); (with_reducible exact app_23; with_reducible exact c_4); (focus (simp (maxDischargeDepth := 8) only [go_sem, hNE, hA]; first | done | exact rfl)); (focus (simp (maxDischargeDepth := 8) only [go_sem, hNE, hA]; first | done | exact rfl)); (focus (simp (maxDischargeDepth := 8) only [go_sem, hNE, hA, roomB, List.length_take, List.length_append]; first | done | omega)); (focus (simp (maxDischargeDepth := 8) only [go_sem, hNE, hA]; first | done | exact rfl)); (focus (simp (maxDischargeDepth := 8) only [go_sem, hNE, hA]; done)); (focus (simp (maxDischargeDepth := 8) only [go_sem, hNE, hA, roomB, List.length_take, List.length_append]; first | done | omega)); (intro la ha hn1; have hNE := And.intro hNE hn1))
            | refine a_cond ?_ ?_
            | (with_reducible intro hc; with_reducible exact Bool.noConfusion hc)
            | (with_reducible intro hc; have hC := And.intro hC hc))
        rename_i lt2 _ _ _
        refine k_invX (k0 - 1) (by omega) ?_
        intro Ng
        refine ⟨_, _, wkE_id, (rowsok_cons (rowok_eq (by simp (maxDischargeDepth := 8) only [go_sem, e0_0, e0_4, e0_5, e0_6, h0_1, h0_7, d0, hw, encR1, encR2, List.map_append, hNE, List.length_append, List.length_cons, List.length_nil, Nat.zero_add]; first | done | rfl)) (rowsok_cons (rowok_eq (by simp (maxDischargeDepth := 8) only [go_sem, e0_0, e0_4, e0_5, e0_6, h0_1, h0_7, d0, hw, encR1, encR2, List.map_append, hNE, List.length_append, List.length_cons, List.length_nil, Nat.zero_add]; first | done | rfl)) (rowsok_cons (rowok_eq (by simp (maxDischargeDepth := 8) only [go_sem, e0_0, e0_4, e0_5, e0_6, h0_1, h0_7, d0, hw, encR1, encR2, List.map_append, hNE, List.length_append, List.length_cons, List.length_nil, Nat.zero_add]; first | done | rfl)) (rowsok_cons (rowok_eq (by simp (maxDischargeDepth := 8) only [go_sem, e0_0, e0_4, e0_5, e0_6, h0_1, h0_7, d0, hw, encR1, encR2, List.map_append, hNE, List.length_append, List.length_cons, List.length_nil, Nat.zero_add]; first | done | rfl)) rowsok_nil)))), s.drop (w + 4), xs ++ [([], false)], la, lt2, (by first | omega | (simp only [List.length_append, List.length_cons, List.length_nil, List.length_drop, List.length_take, List.length_map]; omega)), (by first | omega | (simp only [List.length_append, List.length_cons, List.length_nil, List.length_drop, List.length_take, List.length_map]; omega)), ?_, (by simp (maxDischargeDepth := 8) only [go_sem, e0_0, e0_4, e0_5, e0_6, h0_1, h0_7, d0, hw, encR1, encR2, List.map_append, hNE]), (by simp (maxDischargeDepth := 8) only [go_sem, e0_0, e0_4, e0_5, e0_6, h0_1, h0_7, d0, hw, encR1, encR2, List.map_append, hNE]), (by simp (maxDischargeDepth := 8) only [go_sem, e0_0, e0_4, e0_5, e0_6, h0_1, h0_7, d0, hw, encR1, encR2, List.map_append, hNE]), (by simp (maxDischargeDepth := 8) only [go_sem, e0_0, e0_4, e0_5, e0_6, h0_1, h0_7, d0, hw, encR1, encR2, List.map_append, hNE]), (by simp (maxDischargeDepth := 8) only [go_sem, e0_0, e0_4, e0_5, e0_6, h0_1, h0_7, d0, hw, encR1, encR2, List.map_append, hNE]), (by simp (maxDischargeDepth := 8) only [go_sem, e0_0, e0_4, e0_5, e0_6, h0_1, h0_7, d0, hw, encR1, encR2, List.map_append, hNE]), (by simp (maxDischargeDepth := 8) only [go_sem, e0_0, e0_4, e0_5, e0_6, h0_1, h0_7, d0, hw, encR1, encR2, List.map_append, hNE]), (by simp (maxDischargeDepth := 8) only [go_sem, e0_0, e0_4, e0_5, e0_6, h0_1, h0_7, d0, hw, encR1, encR2, List.map_append, hNE]), (by simp (maxDischargeDepth := 8) only [go_sem, e0_0, e0_4, e0_5, e0_6, h0_1, h0_7, d0, hw, encR1, encR2, List.map_append, hNE]), (by simp (maxDischargeDepth := 8) only [go_sem, e0_0, e0_4, e0_5, e0_6, h0_1, h0_7, d0, hw, encR1, encR2, List.map_append, hNE]), (by simp (maxDischargeDepth := 8) only [go_sem, e0_0, e0_4, e0_5, e0_6, h0_1, h0_7, d0, hw, encR1, encR2, List.map_append, hNE]), (by simp (maxDischargeDepth := 8) only [go_sem, e0_0, e0_4, e0_5, e0_6, h0_1, h0_7, d0, hw, encR1, encR2, List.map_append, hNE]), (by simp (maxDischargeDepth := 8) only [go_sem, e0_0, e0_4, e0_5, e0_6, h0_1, h0_7, d0, hw, encR1, encR2, List.map_append, hNE, List.length_append, List.length_cons, List.length_nil, Nat.zero_add]; first | done | rfl), (by simp (maxDischargeDepth := 8) only [go_sem, e0_0, e0_4, e0_5, e0_6, h0_1, h0_7, d0, hw, encR1, encR2, List.map_append, hNE, List.length_append, List.length_cons, List.length_nil, Nat.zero_add]; first | done | rfl), rfl⟩
        exact hr2
  · have hR2 : xs = R := by
      rcases Nat.lt_or_ge s.length (w + 4) with h | h
      · cases hf : 60 - xs.length with
        | zero => rw [hf] at hr; simpa [scanL] using hr
        | succ f => rw [hf, scanL, if_pos h] at hr; simpa using hr
      · rw [show 60 - xs.length = 0 by omega] at hr; simpa [scanL] using hr
    subst hR2
    have q3 : decide (((w + 4 : Nat) : Int) ≤ (s.length : Int)) = decide (w + 4 ≤ s.length) := by simp only [decide_eq_decide]; omega
    have q2 : decide (((xs.length + 1 : Nat) : Int) ≤ 60) = decide (xs.length < 60) := by simp only [decide_eq_decide]; omega
    have q4 : decide (w + 4 ≤ s.length) = false ∨ (decide (w + 4 ≤ s.length) = true ∧ decide (xs.length < 60) = false) := by
      simp only [decide_eq_false_iff_not, decide_eq_true_eq]; omega
    have wm : IntKind.i64.wrap ((xs.length : Int) - 1) = (xs.length : Int) - 1 := by rw [IntKind.wrap_i64]; omega
    rcases q4 with q4 | ⟨q4, q5⟩
    · have q5 := q4
      (have hA := And.intro e0_0 (And.intro e0_4 (And.intro e0_5 (And.intro e0_6 (And.intro h0_1 (And.intro h0_7 (And.intro d0 (And.intro q2 (And.intro q3 (And.intro q4 (And.intro q5 (wm))))))))))); have hP := True.intro; have hNE := True.intro; have hC := True.intro; repeat' first
          | with_reducible first | refine k_seq ?_ | refine t_seq ?_ | refine t_reg ?_ | refine t_nil ?_ | refine t_exit ?_ | refine k_seq_exit ?_ | refine k_blk_exit ?_ | refine k_invX_exit ?_ | refine t_block ?_
          | refine ae_val ?_
          | refine ae_gval ?_
          | refine a_cond ?_ ?_
          | (with_reducible intro hc; with_reducible exact Bool.noConfusion hc)
          | (with_reducible intro hc; have hC := And.intro hC hc))
      refine t_loopX (fun (k2 : Nat) (E2 : Nat → PV) (H2 : Hp) => ∃ (m : Nat), m ≤ xs.length ∧ m = k2 ∧ trimN xs m = trimN xs xs.length ∧ (lu = l4) = False ∧ (l4 = lu) = False ∧ (lu = lr) = False ∧ (lr = lu) = False ∧ (l4 = lr) = False ∧ (lr = l4) = False ∧ (lu = lt) = False ∧ (lt = lu) = False ∧ (l4 = lt) = False ∧ (lt = l4) = False ∧ (lr = lt) = False ∧ (lt = lr) = False ∧ E2 10 = .int .i64 ((m : Int) - 1) ∧ H2 = hp [(lu, .row true 7 ([.agg [.int .i64 1, .int .i64 w, .arr lr 1 0 m, .arr lt 1 0 m, .str [], .bool false, .int .i64 0]])), (l4, .row true 7 ([zU])), (lr, .row true 1 (xs.map encR1)), (lt, .row true 1 (xs.map encR2))]) (xs.length) ?_ ?_
      intro Ng
      refine ⟨_, _, wkE_id, (rowsok_cons (rowok_eq (by simp (maxDischargeDepth := 8) only [go_sem, e0_0, e0_4, e0_5, e0_6, h0_1, h0_7, d0, zU, hNE, List.length_append, List.length_cons, List.length_nil, Nat.zero_add]; first | done | rfl)) (rowsok_cons (rowok_eq (by simp (maxDischargeDepth := 8) only [go_sem, e0_0, e0_4, e0_5, e0_6, h0_1, h0_7, d0, zU, hNE, List.length_append, List.length_cons, List.length_nil, Nat.zero_add]; first | done | rfl)) (rowsok_cons (rowok_eq (by simp (maxDischargeDepth := 8) only [go_sem, e0_0, e0_4, e0_5, e0_6, h0_1, h0_7, d0, zU, hNE, List.length_append, List.length_cons, List.length_nil, Nat.zero_add]; first | done | rfl)) (rowsok_cons (rowok_eq (by simp (maxDischargeDepth := 8) only [go_sem, e0_0, e0_4, e0_5, e0_6, h0_1, h0_7, d0, zU, hNE, List.length_append, List.length_cons, List.length_nil, Nat.zero_add]; first | done | rfl)) rowsok_nil)))), xs.length, (by first | omega | rfl | assumption | (simp (maxDischargeDepth := 8) only [go_sem, e0_0, e0_4, e0_5, e0_6, h0_1, h0_7, d0, zU, hNE]; first | done | rfl | assumption | omega)), (by first | omega | rfl | assumption | (simp (maxDischargeDepth := 8) only [go_sem, e0_0, e0_4, e0_5, e0_6, h0_1, h0_7, d0, zU, hNE]; first | done | rfl | assumption | omega)), ?_, (by simp (maxDischargeDepth := 8) only [go_sem, e0_0, e0_4, e0_5, e0_6, h0_1, h0_7, d0, zU, hNE]), (by simp (maxDischargeDepth := 8) only [go_sem, e0_0, e0_4, e0_5, e0_6, h0_1, h0_7, d0, zU, hNE]), (by simp (maxDischargeDepth := 8) only [go_sem, e0_0, e0_4, e0_5, e0_6, h0_1, h0_7, d0, zU, hNE]), (by simp (maxDischargeDepth := 8) only [go_sem, e0_0, e0_4, e0_5, e0_6, h0_1, h0_7, d0, zU, hNE]), (by simp (maxDischargeDepth := 8) only [go_sem, e0_0, e0_4, e0_5, e0_6, h0_1, h0_7, d0, zU, hNE]), (by simp (maxDischargeDepth := 8) only [go_sem, e0_0, e0_4, e0_5, e0_6, h0_1, h0_7, d0, zU, hNE]), (by simp (maxDischargeDepth := 8) only [go_sem, e0_0, e0_4, e0_5, e0_6, h0_1, h0_7, d0, zU, hNE]), (by simp (maxDischargeDepth := 8) only [go_sem, e0_0, e0_4, e0_5, e0_6, h0_1, h0_7, d0, zU, hNE]), (by simp (maxDischargeDepth := 8) only [go_sem, e0_0, e0_4, e0_5, e0_6, h0_1, h0_7, d0, zU, hNE]), (by simp (maxDischargeDepth := 8) only [go_sem, e0_0, e0_4, e0_5, e0_6, h0_1, h0_7, d0, zU, hNE]), (by simp (maxDischargeDepth := 8) only [go_sem, e0_0, e0_4, e0_5, e0_6, h0_1, h0_7, d0, zU, hNE]), (by simp (maxDischargeDepth := 8) only [go_sem, e0_0, e0_4, e0_5, e0_6, h0_1, h0_7, d0, zU, hNE]), (by simp (maxDischargeDepth := 8) only [go_sem, e0_0, e0_4, e0_5, e0_6, h0_1, h0_7, d0, zU, hNE, List.length_append, List.length_cons, List.length_nil, Nat.zero_add]; first | done | rfl), rfl⟩
      · rfl
      rintro k2 E2 H2 hfr2 ⟨m, hm, hk2, ht, d2_0, d2_1, d2_2, d2_3, d2_4, d2_5, d2_6, d2_7, d2_8, d2_9, d2_10, d2_11, h2_10, rfl⟩
      have e2_4 := hfr2 4 rfl; have e2_5 := hfr2 5 rfl
      simp (maxDischargeDepth := 8) only [go_sem, e0_0, e0_4, e0_5, e0_6, h0_1, h0_7, d0, zU, hNE] at e2_4 e2_5
      clear hfr2
      have d2 := And.intro d2_0 (And.intro d2_1 (And.intro d2_2 (And.intro d2_3 (And.intro d2_4 (And.intro d2_5 (And.intro d2_6 (And.intro d2_7 (And.intro d2_8 (And.intro d2_9 (And.intro d2_10 (d2_11)))))))))))
      simp only [zU]
      cases m with
      | zero =>
        have q6 : decide ((0 : Int) ≤ ((0 : Nat) : Int) - 1) = false := rfl
        have e2 : trimN xs xs.length = 0 := ht.symm
        (have hA := And.intro e0_0 (And.intro e0_4 (And.intro e0_5 (And.intro e0_6 (And.intro h0_1 (And.intro h0_7 (And.intro d0 (And.intro e2_4 (And.intro e2_5 (And.intro h2_10 (And.intro d2 (q6))))))))))); have hP := True.intro; have hNE := True.intro; have hC := True.intro; repeat' first
            | with_reducible first | refine k_seq ?_ | refine t_seq ?_ | refine t_reg ?_ | refine t_nil ?_ | refine t_ret ?_ | refine t_exit ?_ | refine k_seq_exit ?_ | refine k_blk_exit ?_ | refine k_invX_exit ?_
            | refine ae_val ?_
            | refine ae_gval ?_
            | refine ae_gno ?_
            | refine ae_store ?_
            | refine a_cond ?_ ?_
            | (with_reducible intro hc; with_reducible exact Bool.noConfusion hc)
            | (with_reducible intro hc; have hC := And.intro hC hc))
        (first | apply pend rs61 | apply pendN rs61); (focus (simp (maxDischargeDepth := 8) only [hNE, go_sem, e0_0, e0_4, e0_5, e0_6, h0_1, h0_7, d0, e2_4, e2_5, h2_10, d2, e2]; first | done | exact rfl)); (focus (simp (maxDischargeDepth := 8) only [hNE, go_sem, e0_0, e0_4, e0_5, e0_6, h0_1, h0_7, d0, e2_4, e2_5, h2_10, d2, e2]; first | done | exact rfl))
      | succ m =>
        obtain ⟨x, hx, hdr⟩ := at_list (xs := xs) (i := m) (by omega)
        have q6 : decide ((0 : Int) ≤ ((m + 1 : Nat) : Int) - 1) = true := by simp only [decide_eq_true_eq]; omega
        have q7 : ((m + 1 : Nat) : Int) - 1 = (m : Int) := by omega
        have q8 : (0 : Int) ≤ (m : Int) := by omega
        have q9 : ((m : Int) < ((m + 1 : Nat) : Int)) = True := eq_true (by omega)
        have q10 : ((m : Int) ≤ ((m + 1 : Nat) : Int)) = True := eq_true (by omega)
        have q11 : IntKind.i64.wrap ((m : Int) - 1) = (m : Int) - 1 := by rw [IntKind.wrap_i64]; omega
        have q12 : ((m : Int) - 0).toNat = m := by omega
        cases hxt : x.2 with
        | true =>
          have e2 : trimN xs xs.length = m + 1 := by rw [← ht, trimN, hx]; simp [hxt]
          (have hA := And.intro e0_0 (And.intro e0_4 (And.intro e0_5 (And.intro e0_6 (And.intro h0_1 (And.intro h0_7 (And.intro d0 (And.intro e2_4 (And.intro e2_5 (And.intro h2_10 (And.intro d2 (And.intro q6 (And.intro q7 (And.intro q8 (And.intro q9 (And.intro q10 (And.intro q12 (And.intro hx (hxt)))))))))))))))))); have hP := True.intro; have hNE := True.intro; have hC := True.intro; repeat' first
              | with_reducible first | refine k_seq ?_ | refine t_seq ?_ | refine t_reg ?_ | refine t_nil ?_ | refine t_ret ?_ | refine t_exit ?_ | refine k_seq_exit ?_ | refine k_blk_exit ?_ | refine k_invX_exit ?_
              | refine ae_val ?_
              | refine ae_gval ?_
              | refine ae_store ?_
              | refine a_cond ?_ ?_
              | (with_reducible intro hc; with_reducible exact Bool.noConfusion hc)
              | (with_reducible intro hc; have hC := And.intro hC hc))
          (first | apply pend rs61 | apply pendN rs61); (focus (simp (maxDischargeDepth := 8) only [hNE, go_sem, e0_0, e0_4, e0_5, e0_6, h0_1, h0_7, d0, e2_4, e2_5, h2_10, d2, e2, hm, mapM_closed7, mapM_closed6, mapM_closed5, mapR1, mapR2]; first | done | exact rfl)); (focus (simp (maxDischargeDepth := 8) only [hNE, go_sem, e0_0, e0_4, e0_5, e0_6, h0_1, h0_7, d0, e2_4, e2_5, h2_10, d2, e2, hm, mapM_closed7, mapM_closed6, mapM_closed5, mapR1, mapR2]; first | done | exact rfl))
        | false =>
          have e2 : trimN xs m = trimN xs xs.length := by rw [← ht, trimN, hx]; simp [hxt]
          (have hA := And.intro e0_0 (And.intro e0_4 (And.intro e0_5 (And.intro e0_6 (And.intro h0_1 (And.intro h0_7 (And.intro d0 (And.intro e2_4 (And.intro e2_5 (And.intro h2_10 (And.intro d2 (And.intro q6 (And.intro q7 (And.intro q8 (And.intro q9 (And.intro q10 (And.intro q12 (And.intro hx (hxt)))))))))))))))))); have hP := True.intro; have hNE := True.intro; have hC := True.intro; repeat' first
              | ((with_reducible apply te_drwA); (focus (simp (maxDischargeDepth := 8) only [effFlA, List.map_cons, List.map_nil]; exact rfl)); (focus decide +kernel))
              | with_reducible first | refine k_seq ?_ | refine t_seq ?_ | refine t_reg ?_ | refine t_nil ?_ | refine t_skip ?_ | refine k_blk ?_ | refine t_block ?_ | refine m_nil ?_
              | refine ae_val ?_
              | refine ae_gval ?_
              | refine be_val ?_
              | refine be_store ?_
              | refine a_cond ?_ ?_
              | (with_reducible intro hc; with_reducible exact Bool.noConfusion hc)
              | (with_reducible intro hc; have hC := And.intro hC hc))
          refine k_invX (k2 - 1) (by omega) ?_
          intro Ng
          refine ⟨_, _, wkE_id, (rowsok_cons (rowok_eq (by simp (maxDischargeDepth := 8) only [go_sem, e0_0, e0_4, e0_5, e0_6, h0_1, h0_7, d0, e2_4, e2_5, h2_10, d2, q7, q8, q11, q12, Int.toNat_natCast, hNE, List.length_append, List.length_cons, List.length_nil, Nat.zero_add]; first | done | rfl)) (rowsok_cons (rowok_eq (by simp (maxDischargeDepth := 8) only [go_sem, e0_0, e0_4, e0_5, e0_6, h0_1, h0_7, d0, e2_4, e2_5, h2_10, d2, q7, q8, q11, q12, Int.toNat_natCast, hNE, List.length_append, List.length_cons, List.length_nil, Nat.zero_add]; first | done | rfl)) (rowsok_cons (rowok_eq (by simp (maxDischargeDepth := 8) only [go_sem, e0_0, e0_4, e0_5, e0_6, h0_1, h0_7, d0, e2_4, e2_5, h2_10, d2, q7, q8, q11, q12, Int.toNat_natCast, hNE, List.length_append, List.length_cons, List.length_nil, Nat.zero_add]; first | done | rfl)) (rowsok_cons (rowok_eq (by simp (maxDischargeDepth := 8) only [go_sem, e0_0, e0_4, e0_5, e0_6, h0_1, h0_7, d0, e2_4, e2_5, h2_10, d2, q7, q8, q11, q12, Int.toNat_natCast, hNE, List.length_append, List.length_cons, List.length_nil, Nat.zero_add]; first | done | rfl)) rowsok_nil)))), m, (by first | omega | (simp only [List.length_append, List.length_cons, List.length_nil, List.length_drop, List.length_take, List.length_map]; omega)), (by first | omega | (simp only [List.length_append, List.length_cons, List.length_nil, List.length_drop, List.length_take, List.length_map]; omega)), ?_, (by simp (maxDischargeDepth := 8) only [go_sem, e0_0, e0_4, e0_5, e0_6, h0_1, h0_7, d0, e2_4, e2_5, h2_10, d2, q7, q8, q11, q12, Int.toNat_natCast, hNE]), (by simp (maxDischargeDepth := 8) only [go_sem, e0_0, e0_4, e0_5, e0_6, h0_1, h0_7, d0, e2_4, e2_5, h2_10, d2, q7, q8, q11, q12, Int.toNat_natCast, hNE]), (by simp (maxDischargeDepth := 8) only [go_sem, e0_0, e0_4, e0_5, e0_6, h0_1, h0_7, d0, e2_4, e2_5, h2_10, d2, q7, q8, q11, q12, Int.toNat_natCast, hNE]), (by simp (maxDischargeDepth := 8) only [go_sem, e0_0, e0_4, e0_5, e0_6, h0_1, h0_7, d0, e2_4, e2_5, h2_10, d2, q7, q8, q11, q12, Int.toNat_natCast, hNE]), (by simp (maxDischargeDepth := 8) only [go_sem, e0_0, e0_4, e0_5, e0_6, h0_1, h0_7, d0, e2_4, e2_5, h2_10, d2, q7, q8, q11, q12, Int.toNat_natCast, hNE]), (by simp (maxDischargeDepth := 8) only [go_sem, e0_0, e0_4, e0_5, e0_6, h0_1, h0_7, d0, e2_4, e2_5, h2_10, d2, q7, q8, q11, q12, Int.toNat_natCast, hNE]), (by simp (maxDischargeDepth := 8) only [go_sem, e0_0, e0_4, e0_5, e0_6, h0_1, h0_7, d0, e2_4, e2_5, h2_10, d2, q7, q8, q11, q12, Int.toNat_natCast, hNE]), (by simp (maxDischargeDepth := 8) only [go_sem, e0_0, e0_4, e0_5, e0_6, h0_1, h0_7, d0, e2_4, e2_5, h2_10, d2, q7, q8, q11, q12, Int.toNat_natCast, hNE]), (by simp (maxDischargeDepth := 8) only [go_sem, e0_0, e0_4, e0_5, e0_6, h0_1, h0_7, d0, e2_4, e2_5, h2_10, d2, q7, q8, q11, q12, Int.toNat_natCast, hNE]), (by simp (maxDischargeDepth := 8) only [go_sem, e0_0, e0_4, e0_5, e0_6, h0_1, h0_7, d0, e2_4, e2_5, h2_10, d2, q7, q8, q11, q12, Int.toNat_natCast, hNE]), (by simp (maxDischargeDepth := 8) only [go_sem, e0_0, e0_4, e0_5, e0_6, h0_1, h0_7, d0, e2_4, e2_5, h2_10, d2, q7, q8, q11, q12, Int.toNat_natCast, hNE]), (by simp (maxDischargeDepth := 8) only [go_sem, e0_0, e0_4, e0_5, e0_6, h0_1, h0_7, d0, e2_4, e2_5, h2_10, d2, q7, q8, q11, q12, Int.toNat_natCast, hNE]), (by simp (maxDischargeDepth := 8) only [go_sem, e0_0, e0_4, e0_5, e0_6, h0_1, h0_7, d0, e2_4, e2_5, h2_10, d2, q7, q8, q11, q12, Int.toNat_natCast, hNE, List.length_append, List.length_cons, List.length_nil, Nat.zero_add]; first | done | rfl), rfl⟩
          exact e2
    · skip
      (have hA := And.intro e0_0 (And.intro e0_4 (And.intro e0_5 (And.intro e0_6 (And.intro h0_1 (And.intro h0_7 (And.intro d0 (And.intro q2 (And.intro q3 (And.intro q4 (And.intro q5 (wm))))))))))); have hP := True.intro; have hNE := True.intro; have hC := True.intro; repeat' first
          | with_reducible first | refine k_seq ?_ | refine t_seq ?_ | refine t_reg ?_ | refine t_nil ?_ | refine t_exit ?_ | refine k_seq_exit ?_ | refine k_blk_exit ?_ | refine k_invX_exit ?_ | refine t_block ?_
          | refine ae_val ?_
          | refine ae_gval ?_
          | refine a_cond ?_ ?_
          | (with_reducible intro hc; with_reducible exact Bool.noConfusion hc)
          | (with_reducible intro hc; have hC := And.intro hC hc))
      refine t_loopX (fun (k2 : Nat) (E2 : Nat → PV) (H2 : Hp) => ∃ (m : Nat), m ≤ xs.length ∧ m = k2 ∧ trimN xs m = trimN xs xs.length ∧ (lu = l4) = False ∧ (l4 = lu) = False ∧ (lu = lr) = False ∧ (lr = lu) = False ∧ (l4 = lr) = False ∧ (lr = l4) = False ∧ (lu = lt) = False ∧ (lt = lu) = False ∧ (l4 = lt) = False ∧ (lt = l4) = False ∧ (lr = lt) = False ∧ (lt = lr) = False ∧ E2 10 = .int .i64 ((m : Int) - 1) ∧ H2 = hp [(lu, .row true 7 ([.agg [.int .i64 1, .int .i64 w, .arr lr 1 0 m, .arr lt 1 0 m, .str [], .bool false, .int .i64 0]])), (l4, .row true 7 ([zU])), (lr, .row true 1 (xs.map encR1)), (lt, .row true 1 (xs.map encR2))]) (xs.length) ?_ ?_
      intro Ng
      refine ⟨_, _, wkE_id, (rowsok_cons (rowok_eq (by simp (maxDischargeDepth := 8) only [go_sem, e0_0, e0_4, e0_5, e0_6, h0_1, h0_7, d0, zU, hNE, List.length_append, List.length_cons, List.length_nil, Nat.zero_add]; first | done | rfl)) (rowsok_cons (rowok_eq (by simp (maxDischargeDepth := 8) only [go_sem, e0_0, e0_4, e0_5, e0_6, h0_1, h0_7, d0, zU, hNE, List.length_append, List.length_cons, List.length_nil, Nat.zero_add]; first | done | rfl)) (rowsok_cons (rowok_eq (by simp (maxDischargeDepth := 8) only [go_sem, e0_0, e0_4, e0_5, e0_6, h0_1, h0_7, d0, zU, hNE, List.length_append, List.length_cons, List.length_nil, Nat.zero_add]; first | done | rfl)) (rowsok_cons (rowok_eq (by simp (maxDischargeDepth := 8) only [go_sem, e0_0, e0_4, e0_5, e0_6, h0_1, h0_7, d0, zU, hNE, List.length_append, List.length_cons, List.length_nil, Nat.zero_add]; first | done | rfl)) rowsok_nil)))), xs.length, (by first | omega | rfl | assumption | (simp (maxDischargeDepth := 8) only [go_sem, e0_0, e0_4, e0_5, e0_6, h0_1, h0_7, d0, zU, hNE]; first | done | rfl | assumption | omega)), (by first | omega | rfl | assumption | (simp (maxDischargeDepth := 8) only [go_sem, e0_0, e0_4, e0_5, e0_6, h0_1, h0_7, d0, zU, hNE]; first | done | rfl | assumption | omega)), ?_, (by simp (maxDischargeDepth := 8) only [go_sem, e0_0, e0_4, e0_5, e0_6, h0_1, h0_7, d0, zU, hNE]), (by simp (maxDischargeDepth := 8) only [go_sem, e0_0, e0_4, e0_5, e0_6, h0_1, h0_7, d0, zU, hNE]), (by simp (maxDischargeDepth := 8) only [go_sem, e0_0, e0_4, e0_5, e0_6, h0_1, h0_7, d0, zU, hNE]), (by simp (maxDischargeDepth := 8) only [go_sem, e0_0, e0_4, e0_5, e0_6, h0_1, h0_7, d0, zU, hNE]), (by simp (maxDischargeDepth := 8) only [go_sem, e0_0, e0_4, e0_5, e0_6, h0_1, h0_7, d0, zU, hNE]), (by simp (maxDischargeDepth := 8) only [go_sem, e0_0, e0_4, e0_5, e0_6, h0_1, h0_7, d0, zU, hNE]), (by simp (maxDischargeDepth := 8) only [go_sem, e0_0, e0_4, e0_5, e0_6, h0_1, h0_7, d0, zU, hNE]), (by simp (maxDischargeDepth := 8) only [go_sem, e0_0, e0_4, e0_5, e0_6, h0_1, h0_7, d0, zU, hNE]), (by simp (maxDischargeDepth := 8) only [go_sem, e0_0, e0_4, e0_5, e0_6, h0_1, h0_7, d0, zU, hNE]), (by simp (maxDischargeDepth := 8) only [go_sem, e0_0, e0_4, e0_5, e0_6, h0_1, h0_7, d0, zU, hNE]), (by simp (maxDischargeDepth := 8) only [go_sem, e0_0, e0_4, e0_5, e0_6, h0_1, h0_7, d0, zU, hNE]), (by simp (maxDischargeDepth := 8) only [go_sem, e0_0, e0_4, e0_5, e0_6, h0_1, h0_7, d0, zU, hNE]), (by simp (maxDischargeDepth := 8) only [go_sem, e0_0, e0_4, e0_5, e0_6, h0_1, h0_7, d0, zU, hNE, List.length_append, List.length_cons, List.length_nil, Nat.zero_add]; first | done | rfl), rfl⟩
      · rfl
      rintro k2 E2 H2 hfr2 ⟨m, hm, hk2, ht, d2_0, d2_1, d2_2, d2_3, d2_4, d2_5, d2_6, d2_7, d2_8, d2_9, d2_10, d2_11, h2_10, rfl⟩
      have e2_4 := hfr2 4 rfl; have e2_5 := hfr2 5 rfl
      simp (maxDischargeDepth := 8) only [go_sem, e0_0, e0_4, e0_5, e0_6, h0_1, h0_7, d0, zU, hNE] at e2_4 e2_5
      clear hfr2
      have d2 := And.intro d2_0 (And.intro d2_1 (And.intro d2_2 (And.intro d2_3 (And.intro d2_4 (And.intro d2_5 (And.intro d2_6 (And.intro d2_7 (And.intro d2_8 (And.intro d2_9 (And.intro d2_10 (d2_11)))))))))))
      simp only [zU]
      cases m with
      | zero =>
        have q6 : decide ((0 : Int) ≤ ((0 : Nat) : Int) - 1) = false := rfl
        have e2 : trimN xs xs.length = 0 := ht.symm
        (have hA := And.intro e0_0 (And.intro e0_4 (And.intro e0_5 (And.intro e0_6 (And.intro h0_1 (And.intro h0_7 (And.intro d0 (And.intro e2_4 (And.intro e2_5 (And.intro h2_10 (And.intro d2 (q6))))))))))); have hP := True.intro; have hNE := True.intro; have hC := True.intro; repeat' first
            | with_reducible first | refine k_seq ?_ | refine t_seq ?_ | refine t_reg ?_ | refine t_nil ?_ | refine t_ret ?_ | refine t_exit ?_ | refine k_seq_exit ?_ | refine k_blk_exit ?_ | refine k_invX_exit ?_
            | refine ae_val ?_
            | refine ae_gval ?_
            | refine ae_gno ?_
            | refine ae_store ?_
            | refine a_cond ?_ ?_
            | (with_reducible intro hc; with_reducible exact Bool.noConfusion hc)
            | (with_reducible intro hc; have hC := And.intro hC hc))
        (first | apply pend rs61 | apply pendN rs61); (focus (simp (maxDischargeDepth := 8) only [hNE, go_sem, e0_0, e0_4, e0_5, e0_6, h0_1, h0_7, d0, e2_4, e2_5, h2_10, d2, e2]; first | done | exact rfl)); (focus (simp (maxDischargeDepth := 8) only [hNE, go_sem, e0_0, e0_4, e0_5, e0_6, h0_1, h0_7, d0, e2_4, e2_5, h2_10, d2, e2]; first | done | exact rfl))
      | succ m =>
        obtain ⟨x, hx, hdr⟩ := at_list (xs := xs) (i := m) (by omega)
        have q6 : decide ((0 : Int) ≤ ((m + 1 : Nat) : Int) - 1) = true := by simp only [decide_eq_true_eq]; omega
        have q7 : ((m + 1 : Nat) : Int) - 1 = (m : Int) := by omega
        have q8 : (0 : Int) ≤ (m : Int) := by omega
        have q9 : ((m : Int) < ((m + 1 : Nat) : Int)) = True := eq_true (by omega)
        have q10 : ((m : Int) ≤ ((m + 1 : Nat) : Int)) = True := eq_true (by omega)
        have q11 : IntKind.i64.wrap ((m : Int) - 1) = (m : Int) - 1 := by rw [IntKind.wrap_i64]; omega
        have q12 : ((m : Int) - 0).toNat = m := by omega
        cases hxt : x.2 with
        | true =>
          have e2 : trimN xs xs.length = m + 1 := by rw [← ht, trimN, hx]; simp [hxt]
          (have hA := And.intro e0_0 (And.intro e0_4 (And.intro e0_5 (And.intro e0_6 (And.intro h0_1 (And.intro h0_7 (And.intro d0 (And.intro e2_4 (And.intro e2_5 (And.intro h2_10 (And.intro d2 (And.intro q6 (And.intro q7 (And.intro q8 (And.intro q9 (And.intro q10 (And.intro q12 (And.intro hx (hxt)))))))))))))))))); have hP := True.intro; have hNE := True.intro; have hC := True.intro; repeat' first
              | with_reducible first | refine k_seq ?_ | refine t_seq ?_ | refine t_reg ?_ | refine t_nil ?_ | refine t_ret ?_ | refine t_exit ?_ | refine k_seq_exit ?_ | refine k_blk_exit ?_ | refine k_invX_exit ?_
              | refine ae_val ?_
              | refine ae_gval ?_
              | refine ae_store ?_
              | refine a_cond ?_ ?_
              | (with_reducible intro hc; with_reducible exact Bool.noConfusion hc)
              | (with_reducible intro hc; have hC := And.intro hC hc))
          (first | apply pend rs61 | apply pendN rs61); (focus (simp (maxDischargeDepth := 8) only [hNE, go_sem, e0_0, e0_4, e0_5, e0_6, h0_1, h0_7, d0, e2_4, e2_5, h2_10, d2, e2, hm, mapM_closed7, mapM_closed6, mapM_closed5, mapR1, mapR2]; first | done | exact rfl)); (focus (simp (maxDischargeDepth := 8) only [hNE, go_sem, e0_0, e0_4, e0_5, e0_6, h0_1, h0_7, d0, e2_4, e2_5, h2_10, d2, e2, hm, mapM_closed7, mapM_closed6, mapM_closed5, mapR1, mapR2]; first | done | exact rfl))
        | false =>
          have e2 : trimN xs m = trimN xs xs.length := by rw [← ht, trimN, hx]; simp [hxt]
          (have hA := And.intro e0_0 (And.intro e0_4 (And.intro e0_5 (And.intro e0_6 (And.intro h0_1 (And.intro h0_7 (And.intro d0 (And.intro e2_4 (And.intro e2_5 (And.intro h2_10 (And.intro d2 (And.intro q6 (And.intro q7 (And.intro q8 (And.intro q9 (And.intro q10 (And.intro q12 (And.intro hx (hxt)))))))))))))))))); have hP := True.intro; have hNE := True.intro; have hC := True.intro; repeat' first
              | ((with_reducible apply te_drwA); (focus (simp (maxDischargeDepth := 8) only [effFlA, List.map_cons, List.map_nil]; exact rfl)); (focus decide +kernel))
              | with_reducible first | refine k_seq ?_ | refine t_seq ?_ | refine t_reg ?_ | refine t_nil ?_ | refine t_skip ?_ | refine k_blk ?_ | refine t_block ?_ | refine m_nil ?_
              | refine ae_val ?_
              | refine ae_gval ?_
              | refine be_val ?_
              | refine be_store ?_
              | refine a_cond ?_ ?_
              | (with_reducible intro hc; with_reducible exact Bool.noConfusion hc)
              | (with_reducible intro hc; have hC := And.intro hC hc))
          refine k_invX (k2 - 1) (by omega) ?_
          intro Ng
          refine ⟨_, _, wkE_id, (rowsok_cons (rowok_eq (by simp (maxDischargeDepth := 8) only [go_sem, e0_0, e0_4, e0_5, e0_6, h0_1, h0_7, d0, e2_4, e2_5, h2_10, d2, q7, q8, q11, q12, Int.toNat_natCast, hNE, List.length_append, List.length_cons, List.length_nil, Nat.zero_add]; first | done | rfl)) (rowsok_cons (rowok_eq (by simp (maxDischargeDepth := 8) only [go_sem, e0_0, e0_4, e0_5, e0_6, h0_1, h0_7, d0, e2_4, e2_5, h2_10, d2, q7, q8, q11, q12, Int.toNat_natCast, hNE, List.length_append, List.length_cons, List.length_nil, Nat.zero_add]; first | done | rfl)) (rowsok_cons (rowok_eq (by simp (maxDischargeDepth := 8) only [go_sem, e0_0, e0_4, e0_5, e0_6, h0_1, h0_7, d0, e2_4, e2_5, h2_10, d2, q7, q8, q11, q12, Int.toNat_natCast, hNE, List.length_append, List.length_cons, List.length_nil, Nat.zero_add]; first | done | rfl)) (rowsok_cons (rowok_eq (by simp (maxDischargeDepth := 8) only [go_sem, e0_0, e0_4, e0_5, e0_6, h0_1, h0_7, d0, e2_4, e2_5, h2_10, d2, q7, q8, q11, q12, Int.toNat_natCast, hNE, List.length_append, List.length_cons, List.length_nil, Nat.zero_add]; first | done | rfl)) rowsok_nil)))), m, (by first | omega | (simp only [List.length_append, List.length_cons, List.length_nil, List.length_drop, List.length_take, List.length_map]; omega)), (by first | omega | (simp only [List.length_append, List.length_cons, List.length_nil, List.length_drop, List.length_take, List.length_map]; omega)), ?_, (by simp (maxDischargeDepth := 8) only [go_sem, e0_0, e0_4, e0_5, e0_6, h0_1, h0_7, d0, e2_4, e2_5, h2_10, d2, q7, q8, q11, q12, Int.toNat_natCast, hNE]), (by simp (maxDischargeDepth := 8) only [go_sem, e0_0, e0_4, e0_5, e0_6, h0_1, h0_7, d0, e2_4, e2_5, h2_10, d2, q7, q8, q11, q12, Int.toNat_natCast, hNE]), (by simp (maxDischargeDepth := 8) only [go_sem, e0_0, e0_4, e0_5, e0_6, h0_1, h0_7, d0, e2_4, e2_5, h2_10, d2, q7, q8, q11, q12, Int.toNat_natCast, hNE]), (by simp (maxDischargeDepth := 8) only [go_sem, e0_0, e0_4, e0_5, e0_6, h0_1, h0_7, d0, e2_4, e2_5, h2_10, d2, q7, q8, q11, q12, Int.toNat_natCast, hNE]), (by simp (maxDischargeDepth := 8) only [go_sem, e0_0, e0_4, e0_5, e0_6, h0_1, h0_7, d0, e2_4, e2_5, h2_10, d2, q7, q8, q11, q12, Int.toNat_natCast, hNE]), (by simp (maxDischargeDepth := 8) only [go_sem, e0_0, e0_4, e0_5, e0_6, h0_1, h0_7, d0, e2_4, e2_5, h2_10, d2, q7, q8, q11, q12, Int.toNat_natCast, hNE]), (by simp (maxDischargeDepth := 8) only [go_sem, e0_0, e0_4, e0_5, e0_6, h0_1, h0_7, d0, e2_4, e2_5, h2_10, d2, q7, q8, q11, q12, Int.toNat_natCast, hNE]), (by simp (maxDischargeDepth := 8) only [go_sem, e0_0, e0_4, e0_5, e0_6, h0_1, h0_7, d0, e2_4, e2_5, h2_10, d2, q7, q8, q11, q12, Int.toNat_natCast, hNE]), (by simp (maxDischargeDepth := 8) only [go_sem, e0_0, e0_4, e0_5, e0_6, h0_1, h0_7, d0, e2_4, e2_5, h2_10, d2, q7, q8, q11, q12, Int.toNat_natCast, hNE]), (by simp (maxDischargeDepth := 8) only [go_sem, e0_0, e0_4, e0_5, e0_6, h0_1, h0_7, d0, e2_4, e2_5, h2_10, d2, q7, q8, q11, q12, Int.toNat_natCast, hNE]), (by simp (maxDischargeDepth := 8) only [go_sem, e0_0, e0_4, e0_5, e0_6, h0_1, h0_7, d0, e2_4, e2_5, h2_10, d2, q7, q8, q11, q12, Int.toNat_natCast, hNE]), (by simp (maxDischargeDepth := 8) only [go_sem, e0_0, e0_4, e0_5, e0_6, h0_1, h0_7, d0, e2_4, e2_5, h2_10, d2, q7, q8, q11, q12, Int.toNat_natCast, hNE]), (by simp (maxDischargeDepth := 8) only [go_sem, e0_0, e0_4, e0_5, e0_6, h0_1, h0_7, d0, e2_4, e2_5, h2_10, d2, q7, q8, q11, q12, Int.toNat_natCast, hNE, List.length_append, List.length_cons, List.length_nil, Nat.zero_add]; first | done | rfl), rfl⟩
          exact e2
end Go.Proofs.Ythdgdngdfijfhaa
namespace Go.Proofs.Ythdgdngdfijfhaa
open Go.RowKit Go.Proofs
set_option linter.unusedVariables false
set_option linter.unusedSimpArgs false
attribute [local irreducible] PPure CallN Tops TopsDm T
def bytesG (u : Un) : List UInt8 × Int := if unitE u = 0 then (bytesF u, 0) else ([], unitE u)
theorem p13 (u : Un) (hl : u.recs.length ≤ 1000) (hl2 : u.there.length ≤ 1000) : PPure Try.prog 13 [encU u] (.tup [.str (bytesG u).1, .int .i64 (bytesG u).2]) := by
  have h1 := p16 u hl hl2
  by_cases hz : unitE u = 0
  · have ez := dnz0 hz
    have h2 := p50 u ((unitE_zero u).1 hz)
    have hs : bytesG u = (bytesF u, 0) := by rw [bytesG, if_pos hz]
    rw [hs]
    simp only [encU] at h1 h2 ⊢
    (refine ppure_of_T ok13 (by simp only [List.length_cons, List.length_nil]; decide) ?_; refine t_seq ?_)
    (have hA := ez; have hP := And.intro h1 (And.intro h2 (True.intro)); have hNE := True.intro; have hC := True.intro; repeat' first
        | with_reducible first | refine k_seq ?_ | refine t_seq ?_ | refine t_reg ?_ | refine t_nil ?_ | refine t_skip ?_ | refine t_ret ?_
        | refine ae_val ?_
        | refine ae_callS ?_
        | refine ae_box ?_
        | refine a_cond ?_ ?_
        | (with_reducible intro hc; with_reducible exact Bool.noConfusion hc)
        | (with_reducible intro hc; have hC := And.intro hC hc))
    (first | apply pend rs13 | apply pendN rs13); (focus (simp only [go_sem]; first | done | exact rfl)); (focus (simp only [go_sem]; first | done | exact rfl))
  · have ez := dnz1 hz
    have hs : bytesG u = ([], unitE u) := by rw [bytesG, if_neg hz]
    rw [hs]
    simp only [encU] at h1 ⊢
    (refine ppure_of_T ok13 (by simp only [List.length_cons, List.length_nil]; decide) ?_; refine t_seq ?_)
    (have hA := ez; have hP := And.intro h1 (True.intro); have hNE := True.intro; have hC := True.intro; repeat' first
        | with_reducible first | refine k_seq ?_ | refine t_seq ?_ | refine t_reg ?_ | refine t_nil ?_ | refine t_ret ?_ | refine k_seq_ret ?_
        | refine ae_val ?_
        | refine ae_callS ?_
        | refine ae_box ?_
        | refine a_cond ?_ ?_
        | (with_reducible intro hc; with_reducible exact Bool.noConfusion hc)
        | (with_reducible intro hc; have hC := And.intro hC hc))
    (first | apply pend rs13 | apply pendN rs13); (focus (simp only [go_sem]; first | done | exact rfl)); (focus (simp only [go_sem]; first | done | exact rfl))
def largeS (s : List UInt8) : Bool := decide (20000 < s.length)
def openE (a w : Int) (s : List UInt8) : Int := orE [accF a w, rfs (largeS s) 8]
def openF (a w : Int) (s : List UInt8) : (Un × Int) × Int :=
  if openE a w s ≠ 0 then ((zeU, 0), openE a w s)
  else if a = 0 then (((openL 62 s []).1.1, ((openL 62 s []).1.2 : Int)), (openL 62 s []).2)
  else if a = 2 then ((⟨2, 0, [], [], s.take 4000, false, 0⟩, (s.length : Int) - (s.take 4000).length), 0)
  else ((odF w.toNat s, (s.length : Int) - (min (s.length / (w.toNat + 4)) 60 : Nat) * (w.toNat + 4)), 0)
attribute [local go_sem] pvMinMax in
set_option maxHeartbeats 2000000 in
theorem p17 (h60 : ∀ s0 : List UInt8, s0.length ≤ 30000 → PPure Try.prog 60 [.str s0] (.tup [encU (openL 62 s0 []).1.1, .int .i64 ((openL 62 s0 []).1.2 : Int), .int .i64 (openL 62 s0 []).2]))
    (a w : Int) (s : List UInt8) (hsl : s.length ≤ 140737488355328) : PPure Try.prog 17 [.int .i64 a, .int .i64 w, .str s] (.tup [encU (openF a w s).1.1, .int .i64 (openF a w s).1.2, .int .i64 (openF a w s).2]) := by
  have h1 := p55 a w
  have h2 := p56 (largeS s) 8
  have h3 := p54_2 (accF a w) (rfs (largeS s) 8)
  have el : decide ((20000 : Int) < (s.length : Int)) = largeS s := by simp only [largeS, decide_eq_decide]; omega
  by_cases hz : openE a w s = 0
  · have ez : decide (¬ orE [accF a w, rfs (largeS s) 8] = 0) = false := dnz0 hz
    have hzz := hz
    unfold openE at hzz
    rw [orE_zero] at hzz
    have g1 := hzz (accF a w) (by simp)
    have g2 := hzz (rfs (largeS s) 8) (by simp)
    have hlen : s.length ≤ 20000 := by
      rw [rfs_zero (by decide)] at g2
      simp [largeS] at g2; omega
    unfold accF at g1
    rw [orE_zero] at g1
    have g3 := g1 _ (List.mem_cons_self)
    have g4 := g1 _ (List.mem_cons_of_mem _ List.mem_cons_self)
    rw [rfs_zero (by decide)] at g3 g4
    simp at g3 g4
    rw [btw_true] at g3
    by_cases ha0 : a = 0
    · subst ha0
      have hs : openF 0 w s = (((openL 62 s []).1.1, ((openL 62 s []).1.2 : Int)), (openL 62 s []).2) := by simp [openF, hz]
      have h60' := h60 s (by omega)
      rw [hs]
      generalize openL 62 s [] = q at h60' ⊢
      simp only [encU] at h60' ⊢
      (refine ppure_of_T ok17 (by simp only [List.length_cons, List.length_nil]; decide) ?_; refine t_seq ?_)
      (have hA := And.intro el (ez); have hP := And.intro h1 (And.intro h2 (And.intro h3 (And.intro h60' (True.intro)))); have hNE := True.intro; have hC := True.intro; repeat' first
          | with_reducible first | refine k_seq ?_ | refine t_seq ?_ | refine t_reg ?_ | refine t_nil ?_ | refine t_skip ?_ | refine t_ret ?_ | refine k_seq_ret ?_ | refine k_blk_ret ?_ | refine t_block ?_
          | refine ae_val ?_
          | refine ae_callS ?_
          | (refine ae_alloc ?_; intro la ha hn1; have hNE := And.intro hNE hn1)
          | refine ae_store ?_
          | refine a_cond ?_ ?_
          | (with_reducible intro hc; with_reducible exact Bool.noConfusion hc)
          | (with_reducible intro hc; have hC := And.intro hC hc))
      (first | apply pend rs17 | apply pendN rs17); (focus (simp (maxDischargeDepth := 8) only [hNE, go_sem]; first | done | exact rfl)); (focus (simp (maxDischargeDepth := 8) only [hNE, go_sem]; first | done | exact rfl))
    · have ea0 : decide (a = 0) = false := by simp [ha0]
      by_cases ha2 : a = 2
      · subst ha2
        have hw0 : w = 0 := by simpa using g4
        subst hw0
        have hs : openF 2 0 s = ((⟨2, 0, [], [], s.take (min s.length 4000), false, 0⟩, (s.length : Int) - (min s.length 4000 : Nat)), 0) := by
          have : s.take 4000 = s.take (min s.length 4000) := by rw [List.take_eq_take_iff]; omega
          simp [openF, hz, this]
        obtain ⟨m, hm⟩ : ∃ m, min s.length 4000 = m := ⟨_, rfl⟩
        have mn : (if (4000 : Int) < (s.length : Int) then (4000 : Int) else (s.length : Int)) = (m : Int) := by split <;> omega
        have b1 : (0 : Int) ≤ (m : Int) := by omega
        have b2 : (m : Int) ≤ (s.length : Int) := by omega
        have b3 : (s.take m).length = m := by simp; omega
        have b4 : IntKind.i64.wrap ((s.length : Int) - (m : Int)) = (s.length : Int) - (m : Int) := by rw [IntKind.wrap_i64]; omega
        rw [hs, hm]
        simp only [encU, List.map_nil]
        (refine ppure_of_T ok17 (by simp only [List.length_cons, List.length_nil]; decide) ?_; refine t_seq ?_)
        (have hA := And.intro el (And.intro ez (And.intro ea0 (And.intro mn (And.intro b1 (And.intro b2 (And.intro b3 (b4))))))); have hP := And.intro h1 (And.intro h2 (And.intro h3 (True.intro))); have hNE := True.intro; have hC := True.intro; repeat' first
            | with_reducible first | refine k_seq ?_ | refine t_seq ?_ | refine t_reg ?_ | refine t_nil ?_ | refine t_skip ?_ | refine t_ret ?_ | refine k_seq_ret ?_ | refine k_blk_ret ?_ | refine t_block ?_
            | refine ae_val ?_
            | refine ae_callS ?_
            | (refine ae_alloc ?_; intro la ha hn1; have hNE := And.intro hNE hn1)
            | refine ae_store ?_
            | refine a_cond ?_ ?_
            | (with_reducible intro hc; with_reducible exact Bool.noConfusion hc)
            | (with_reducible intro hc; have hC := And.intro hC hc))
        (first | apply pend rs17 | apply pendN rs17); (focus (simp (maxDischargeDepth := 8) only [hNE, go_sem]; first | done | exact rfl)); (focus (simp (maxDischargeDepth := 8) only [hNE, go_sem]; first | done | exact rfl))
      · have ea2 : decide (a = 2) = false := by simp [ha2]
        obtain rfl : a = 1 := by omega
        have g5 : 1 ≤ w ∧ w ≤ 200 := by simpa [btw_true] using g4
        obtain ⟨W, rfl⟩ : ∃ W : Nat, w = (W : Int) := ⟨w.toNat, by omega⟩
        have h61 := p61 W s (by omega) (by omega) (by omega)
        have h62 := p62 (odF W s) ⟨by show (-1000000 : Int) ≤ (W : Int); omega, by show (W : Int) ≤ 1000000; omega⟩
        rw [show (odF W s).width = (W : Int) from rfl] at h62
        obtain ⟨m, hm⟩ : ∃ m, min (s.length / (W + 4)) 60 = m := ⟨_, rfl⟩
        have hs : openF 1 (W : Int) s = ((odF W s, (s.length : Int) - (m : Int) * ((W : Int) + 4)), 0) := by
          simp only [openF, hz, Int.toNat_natCast, hm]; rfl
        have nz1 : ¬ ((W : Int) + 4 = 0) := by omega
        have hq : ((s.length / (W + 4) : Nat) : Int) ≤ (s.length : Int) := by have := Nat.div_le_self s.length (W + 4); omega
        have dv : IntKind.i64.wrap ((s.length : Int).tdiv ((W : Int) + 4)) = ((s.length / (W + 4) : Nat) : Int) := by
          have e : (s.length : Int).tdiv ((W : Int) + 4) = ((s.length / (W + 4) : Nat) : Int) := by
            rw [show (W : Int) + 4 = ((W + 4 : Nat) : Int) by omega, Int.ofNat_tdiv]
          rw [e, IntKind.wrap_i64]; omega
        have mn : (if (60 : Int) < ((s.length / (W + 4) : Nat) : Int) then (60 : Int) else ((s.length / (W + 4) : Nat) : Int)) = (m : Int) := by split <;> omega
        have hml : m ≤ 60 := by omega
        have hmw : m * (W + 4) ≤ 60 * 204 := Nat.mul_le_mul hml (by omega)
        have e5 : (m : Int) * ((W : Int) + 4) = ((m * (W + 4) : Nat) : Int) := by simp
        have b4 : IntKind.i64.wrap ((m : Int) * ((W : Int) + 4)) = (m : Int) * ((W : Int) + 4) := by rw [e5, IntKind.wrap_i64]; omega
        have b5 : IntKind.i64.wrap ((s.length : Int) - (m : Int) * ((W : Int) + 4)) = (s.length : Int) - (m : Int) * ((W : Int) + 4) := by rw [e5, IntKind.wrap_i64]; omega
        rw [hs]
        generalize odF W s = q at h61 h62 ⊢
        simp only [encU] at h61 h62 ⊢
        (refine ppure_of_T ok17 (by simp only [List.length_cons, List.length_nil]; decide) ?_; refine t_seq ?_)
        (have hA := And.intro el (And.intro ez (And.intro ea0 (And.intro ea2 (And.intro mn (And.intro nz1 (And.intro dv (And.intro b4 (b5)))))))); have hP := And.intro h1 (And.intro h2 (And.intro h3 (And.intro h61 (And.intro h62 (True.intro))))); have hNE := True.intro; have hC := True.intro; repeat' first
            | with_reducible first | refine k_seq ?_ | refine t_seq ?_ | refine t_reg ?_ | refine t_nil ?_ | refine t_skip ?_ | refine t_ret ?_ | refine k_blk ?_ | refine t_block ?_
            | refine ae_val ?_
            | refine ae_callS ?_
            | (refine ae_alloc ?_; intro la ha hn1; have hNE := And.intro hNE hn1)
            | refine ae_store ?_
            | refine a_cond ?_ ?_
            | (with_reducible intro hc; with_reducible exact Bool.noConfusion hc)
            | (with_reducible intro hc; have hC := And.intro hC hc))
        (first | apply pend rs17 | apply pendN rs17); (focus (simp (maxDischargeDepth := 8) only [hNE, go_sem]; first | done | exact rfl)); (focus (simp (maxDischargeDepth := 8) only [hNE, go_sem]; first | done | exact rfl))
  · have ez : decide (¬ orE [accF a w, rfs (largeS s) 8] = 0) = true := dnz1 hz
    have hs : openF a w s = ((zeU, 0), openE a w s) := by simp [openF, hz]
    rw [hs]
    simp only [encU, zeU, List.map_nil, openE]
    (refine ppure_of_T ok17 (by simp only [List.length_cons, List.length_nil]; decide) ?_; refine t_seq ?_)
    (have hA := And.intro el (ez); have hP := And.intro h1 (And.intro h2 (And.intro h3 (True.intro))); have hNE := True.intro; have hC := True.intro; repeat' first
        | with_reducible first | refine k_seq ?_ | refine t_seq ?_ | refine t_reg ?_ | refine t_nil ?_ | refine t_ret ?_ | refine k_seq_ret ?_
        | refine ae_val ?_
        | refine ae_callS ?_
        | (refine ae_alloc ?_; intro la ha hn1; have hNE := And.intro hNE hn1)
        | refine ae_store ?_
        | refine a_cond ?_ ?_
        | (with_reducible intro hc; with_reducible exact Bool.noConfusion hc)
        | (with_reducible intro hc; have hC := And.intro hC hc))
    (first | apply pend rs17 | apply pendN rs17); (focus (simp (maxDischargeDepth := 8) only [hNE, go_sem]; first | done | exact rfl)); (focus (simp (maxDischargeDepth := 8) only [hNE, go_sem]; first | done | exact rfl))
end Go.Proofs.Ythdgdngdfijfhaa
namespace Go.Proofs.Ythdgdngdfijfhaa
open Go.RowKit Go.Shelf Go.Proofs
set_option linter.unusedVariables false
set_option linter.unusedSimpArgs false
attribute [local go_sem] Oper.semAt_some
def upto {α : Type} (f : Nat → α) (k : Nat) : List α := (List.range k).map f
theorem upto_succ {α : Type} (f : Nat → α) (k : Nat) : upto f (k + 1) = upto f k ++ [f k] := by simp [upto, List.range_succ]
theorem upto_length {α : Type} (f : Nat → α) (k : Nat) : (upto f k).length = k := by simp [upto]
def KpB (b1 b2 : Nat) (W W' : World) : Prop := (∀ p : Addr, p.block = b1 ∨ p.block = b2 → ∀ v, W.cell? p = some v → W'.cell? p = some v)
theorem KpB.trans {b1 b2 : Nat} {A B C : World} (h : KpB b1 b2 A B) (k : KpB b1 b2 B C) : KpB b1 b2 A C := fun p hp v hv => k p hp v (h p hp v hv)
def bk (zs : List UInt8) (j : Nat) : Nat × UInt8 := (zs.length - 1 - j, zs[zs.length - 1 - j]?.getD 0)
set_option maxRecDepth 100000 in
set_option maxHeartbeats 2000000 in
theorem back1_in (F : Fence) (n : Nat) (h121 : F.fn 121) (hro : F.round = none) (hn : 1 ≤ n) (l Bs b off cap : Nat) (zs : List UInt8) (hreach : zs.length * 8 ≤ 140737488351232) (J Jx : List (Nat × UInt8) → World → Prop)
    (hY : ∀ pre x W, J pre W → pre.length < zs.length → YieldAt F (n - 1) Try.prog l #[.int .i64 (x.1 : Int), .int .u8 (x.2.toNat : Int)] W fun e W' =>
      (e = .returned (.bool true) ∧ J (pre ++ [x]) W' ∧ KpB Bs b W W') ∨ (e = .returned (.bool false) ∧ Jx (pre ++ [x]) W'))
    (W : World) (hBs : W.cell? ⟨Bs, 0, none⟩ = some (.slice (some ⟨b, off, none⟩) zs.length cap)) (hc : ∀ j, j < zs.length → W.cell? ⟨b, off + j, none⟩ = some (.int .u8 ((zs[j]?.getD 0).toNat : Int))) (h0 : J [] W) :
    CallsIn F n Try.prog 121 #[.func (.yield l) #[] #[], .pointer (some ⟨Bs, 0, none⟩)] W fun e W' => (∃ v, e = .returned v) ∧
      ((∃ ys, ys = upto (bk zs) zs.length ∧ J ys W') ∨ (∃ pre, (∃ k, k ≤ zs.length ∧ pre = upto (bk zs) k) ∧ Jx pre W')) := by
  obtain ⟨len, hlen⟩ : ∃ len, zs.length = len := ⟨_, rfl⟩
  rw [hlen] at hBs hc hY hreach ⊢
  refine callsIn_of_wp Try.func121 rfl h121 ?_ hro
  simp only [Try.ntmps121, List.size_toArray, List.length_cons, List.length_nil, Nat.reduceAdd, Nat.reduceSub, Array.replicate_succ, Array.replicate_zero, List.push_toArray, List.append_toArray, List.nil_append, List.cons_append]
  gi_wp2
  gi_loopw [3] (fun i wr => ∃ k r : Nat, k + r = len ∧ i = .int .i64 ((r : Int) - 1) ∧ J (upto (bk zs) k) wr ∧ KpB Bs b W wr)
    (fun i _ => (intOf i + 1).toNat)
  case atStart => exact ⟨0, len, by omega, rfl, h0, fun p _ v hv => hv⟩
  case round =>
    obtain ⟨k, r, hk, rfl, hJs, hnx⟩ := hrel
    have hbs := hnx _ (.inl rfl) _ hBs
    cases r with
    | zero =>
      gi_wp2
      go_end0
      obtain rfl : k = len := by omega
      exact ⟨⟨_, rfl⟩, .inl ⟨_, rfl, hJs⟩⟩
    | succ j =>
      have hcx := hnx ⟨b, off + j, none⟩ (.inr rfl) _ (hc j (by omega))
      have ej : ((j + 1 : Nat) : Int) - 1 = (j : Int) := by omega
      rw [ej]
      have eb : bk zs k = (j, zs[j]?.getD 0) := by
        unfold bk; rw [show zs.length - 1 - k = j by omega]
      obtain ⟨fn, tmps, assign, body, hy, hR⟩ := hY _ (j, zs[j]?.getD 0) wr hJs (by rw [upto_length]; omega)
      dsimp only at hy
      gi_wp2
      refine hR.mono ?_
      rintro e W3 (⟨rfl, hJ3, hk3⟩ | ⟨rfl, hJx3⟩)
      · gi_wp2
        go_roundw
        case rel => exact ⟨k + 1, j, by omega, by simp, by rw [upto_succ, eb]; exact hJ3, hnx.trans hk3⟩
        case measure => simp [intOf]
      · gi_wp2
        refine bodyPost_ret (results_none rfl _ _ _) rfl ?_
        exact ⟨⟨_, rfl⟩, .inr ⟨_, ⟨k + 1, by omega, by rw [upto_succ, eb]⟩, hJx3⟩⟩
set_option maxHeartbeats 1000000 in
theorem back_in (F : Fence) (n : Nat) (h116 : F.fn 116) (hro : F.round = none) (a : Option Addr) (len cap : Nat) (w : World) :
    CallsIn F n Try.prog 116 #[.slice a len cap] w fun e w' => e = .returned (.func (.func 121) #[] #[.pointer (some ⟨w.heap.size, 0, none⟩)]) ∧ w' = w.alloc (.cells #[.slice a len cap] 95) := by
  refine callsIn_of_wp Try.func116 rfl h116 ?_ hro
  simp only [Try.ntmps116, List.size_toArray, List.length_cons, List.length_nil, Nat.reduceAdd, Nat.reduceSub, Array.replicate_succ, Array.replicate_zero, List.push_toArray, List.append_toArray, List.nil_append, List.cons_append]
  gi_wp2
  go_ret
  exact ⟨rfl, rfl⟩
def numR : List (Nat × UInt8) → Int → Int
  | [], a => a
  | x :: r, a => numR r (a * 256 + (x.2.toNat : Int))
theorem cell_alloc_l {W : World} {a : Addr} {v : Value} (o : Obj) (h : W.cell? a = some v) : (W.alloc o).cell? a = some v := cell_kept h (World.grownBy_alloc W o none) (fun r e => by cases e)
theorem frozen_alloc_l {W : World} {a : Addr} {v : Value} (o : Obj) (h : W.cell? a = some v) (hf : W.frozen? a = false) : (W.alloc o).frozen? a = false := (frozen_kept h (World.grownBy_alloc W o none) (fun r e => by cases e)).trans hf
theorem or_byte (a : Nat) (c : UInt8) (ha : a < 281474976710656) : bits .or .i64 (wrap64 ((a : Int) * 256)) (wrap64 (c.toNat : Int)) = (a : Int) * 256 + (c.toNat : Int) := by
  have hc := c.toNat_lt
  have e1 : wrap64 ((a : Int) * 256) = ((a * 256 : Nat) : Int) := by unfold wrap64; omega
  have e2 : wrap64 (c.toNat : Int) = (c.toNat : Int) := by unfold wrap64; omega
  rw [e1, e2]
  unfold bits
  simp only [BitVec.ofInt_natCast, BitVec.toNat_or, BitVec.toNat_ofNat]
  have b1 : a * 256 % 2 ^ IntKind.i64.bits = a * 256 := Nat.mod_eq_of_lt (by show a * 256 < 2 ^ 64; omega)
  have b2 : c.toNat % 2 ^ IntKind.i64.bits = c.toNat := Nat.mod_eq_of_lt (by show c.toNat < 2 ^ 64; omega)
  rw [b1, b2]
  have h := Nat.shiftLeft_add_eq_or_of_lt (b := c.toNat) (i := 8) hc a
  rw [Nat.shiftLeft_eq] at h
  rw [← h, IntKind.wrap_i64]; omega
theorem numR_snoc (x : Nat × UInt8) : ∀ (l : List (Nat × UInt8)) (a : Int), numR (l ++ [x]) a = numR l a * 256 + (x.2.toNat : Int)
  | [], a => rfl
  | y :: l, a => by simp only [List.cons_append, numR, numR_snoc x l]
theorem numR_nat' : ∀ (l : List (Nat × UInt8)) (a : Nat), ∃ n : Nat, numR l (a : Int) = (n : Int) ∧ n < (a + 1) * 256 ^ l.length
  | [], a => ⟨a, rfl, by simp⟩
  | x :: l, a => by
    have hc := x.2.toNat_lt
    obtain ⟨n, h1, h2⟩ := numR_nat' l (a * 256 + x.2.toNat)
    refine ⟨n, by rw [numR, ← h1]; simp, Nat.lt_of_lt_of_le h2 ?_⟩
    rw [List.length_cons, Nat.pow_succ, ← Nat.mul_assoc, Nat.mul_right_comm]
    exact Nat.mul_le_mul_right _ (by omega)
theorem numR_nat (l : List (Nat × UInt8)) : ∃ n : Nat, numR l 0 = (n : Int) ∧ n < 256 ^ l.length := by
  obtain ⟨n, h1, h2⟩ := numR_nat' l 0
  exact ⟨n, h1, by simpa using h2⟩
set_option maxRecDepth 100000 in
set_option maxHeartbeats 2000000 in
theorem num_in (F : Fence) (n : Nat) (h109 : F.fn 109) (h116 : F.fn 116) (h121 : F.fn 121) (hro : F.round = none) (hn : 3 ≤ n) (s : List UInt8) (hl : s.length ≤ 7) (w : World) :
    CallsIn F n Try.prog 109 #[.string ⟨s.toArray⟩] w fun e W' => e = .returned (.int .i64 (numR (upto (bk s) s.length) 0)) ∧ Below w.heap.size w W' := by
  have h1 : 1 ≤ n := by omega
  refine callsIn_of_wp_marks Try.func109 rfl h109 ?_ hro
  simp only [Try.ntmps109, List.size_toArray, List.length_cons, List.length_nil, Nat.reduceAdd, Nat.reduceSub, Array.replicate_succ, Array.replicate_zero, List.push_toArray, List.append_toArray, List.nil_append, List.cons_append]
  have hconv := fun w => Lib.run_convert_string_bytes (P := Try.prog) w 9 95 5 ⟨s.toArray⟩ Try.underlying9 Try.underlying95 Try.underlying5
  gi_wp2_with (gi_at_call 116; refine (back_in F (n - 1) h116 hro _ _ _ _).mono ?_; rintro e w' ⟨rfl, rfl⟩)
  obtain ⟨wa, hwa⟩ : ∃ wa, w.alloc (.cells #[.int .i64 0] 3) = wa := ⟨_, rfl⟩
  have sa : wa.heap.size = w.heap.size + 1 := by rw [← hwa]; simp
  have cn : wa.cell? ⟨w.heap.size, 0, none⟩ = some (.int .i64 0) ∧ wa.frozen? ⟨w.heap.size, 0, none⟩ = false := by rw [← hwa]; exact ⟨(Boxed.new w 3 (.int .i64 0)).cell, (Boxed.new w 3 (.int .i64 0)).frozen⟩
  have Ba : Below w.heap.size w wa := by rw [← hwa]; exact (Below.refl _ w).alloc (Nat.le_refl _) _
  rw [hwa]
  obtain ⟨wb, hwb⟩ : ∃ wb, Lib.bytesWorld wa 5 ⟨s.toArray⟩ = wb := ⟨_, rfl⟩
  have sb : wb.heap.size = w.heap.size + 2 := by rw [← hwb, Lib.bytesWorld_size, sa]
  have old : ∀ j, j < wa.heap.size → wb.heap[j]? = wa.heap[j]? := fun j hj => by rw [← hwb]; exact Lib.bytesWorld_at_old wa 5 _ j hj
  have cb : ∀ j, j < s.length → wb.cell? ⟨w.heap.size + 1, 0 + j, none⟩ = some (.int .u8 ((s[j]?.getD 0).toNat : Int)) := fun j hj => by
    have := Lib.bytesWorld_cell wa 5 ⟨s.toArray⟩ j (by show j < s.toArray.size; simpa using hj)
    rw [hwb, sa] at this
    rw [Nat.zero_add, this]
    simp [List.getD]
  have Bb : Below w.heap.size w wb := ⟨by rw [← hwb]; exact Ba.os, by rw [← hwb]; exact Ba.tape, by rw [← hwb]; exact Ba.output, by omega, fun k hk => (old k (by omega)).trans (Ba.block k hk)⟩
  rw [hwb, sb]
  have bS : wb.cell? ⟨w.heap.size, 0, none⟩ = some (.int .i64 0) ∧ wb.frozen? ⟨w.heap.size, 0, none⟩ = false := by
    have e := old w.heap.size (by omega)
    refine ⟨?_, ?_⟩
    · have := cn.1; unfold World.cell? at this ⊢; simp only [e]; exact this
    · have := cn.2; unfold World.frozen? at this ⊢; simp only [e]; exact this
  obtain ⟨cap, hcap⟩ : ∃ cap, grownCap wa s.length 0 5 = cap := ⟨_, rfl⟩
  rw [hcap]
  obtain ⟨wc, hwc⟩ : ∃ wc, wb.alloc (.cells #[.slice (some ⟨w.heap.size + 1, 0, none⟩) s.length cap] 95) = wc := ⟨_, rfl⟩
  rw [hwc]
  have sc : wc.heap.size = w.heap.size + 3 := by rw [← hwc]; simp; omega
  have Bc : Below w.heap.size w wc := by rw [← hwc]; exact Bb.trans (((Below.refl _ wb).alloc (Nat.le_refl _) _).mono Bb.size)
  have cx : wc.cell? ⟨w.heap.size + 2, 0, none⟩ = some (.slice (some ⟨w.heap.size + 1, 0, none⟩) s.length cap) := by
    have := (Boxed.new wb 95 (.slice (some ⟨w.heap.size + 1, 0, none⟩) s.length cap)).cell
    rw [sb] at this; rw [← hwc]; exact this
  have cc : ∀ j, j < s.length → wc.cell? ⟨w.heap.size + 1, 0 + j, none⟩ = some (.int .u8 ((s[j]?.getD 0).toNat : Int)) := fun j hj => by
    rw [← hwc]; exact cell_alloc_l _ (cb j hj)
  have cS : wc.cell? ⟨w.heap.size, 0, none⟩ = some (.int .i64 0) ∧ wc.frozen? ⟨w.heap.size, 0, none⟩ = false := by
    rw [← hwc]; exact ⟨cell_alloc_l _ bS.1, frozen_alloc_l _ bS.1 bS.2⟩
  refine wpIn_rangeFunc_ownG hro h1 (gf := 121) (lb := #[.pointer (some ⟨w.heap.size + 2, 0, none⟩)]) (w0 := wc) (N := s.length) (S := fun ys => ys = upto (bk s) s.length) (Sp := fun pre => ∃ k, k ≤ s.length ∧ pre = upto (bk s) k)
    (encs := fun x : Nat × UInt8 => #[.int .i64 (x.1 : Int), .int .u8 (x.2.toNat : Int)]) (Kp := KpB (w.heap.size + 2) (w.heap.size + 1)) rfl h121 (enters_of Try.func121 (by kernel_rfl) rfl)
    (fun l J Jx W hW _ _ hY h0 => back1_in F (n - 1) h121 hro (by omega) l (w.heap.size + 2) (w.heap.size + 1) 0 cap s (by omega) J Jx hY W ((hW.cell (p := ⟨w.heap.size + 2, 0, none⟩) (by show w.heap.size + 2 < _; omega)).trans cx)
      (fun j hj => (hW.cell (p := ⟨w.heap.size + 1, 0 + j, none⟩) (by show w.heap.size + 1 < _; omega)).trans (cc j hj)) h0)
    (fun h k => h.trans k) ?keep (Below.refl _ _) (fun _ => rfl)
    (fun pre W => (W.cell? ⟨w.heap.size, 0, none⟩ = some (.int .i64 (numR pre 0)) ∧ W.frozen? ⟨w.heap.size, 0, none⟩ = false) ∧ Below w.heap.size w W)
    (fun _ _ _ => False)
    (OwnFrom.and (Own.from (fun s A B row hs hg hr => ⟨cell_kept hs.1 hg hr, (frozen_kept hs.1 hg hr).trans hs.2⟩) _) (ownFrom_below (Nat.le_refl _) (by omega)))
    (fun _ _ _ _ _ hs _ _ => hs)
    ⟨cS, Bc⟩
    (fun x => { tmps := #[.string ⟨s.toArray⟩, undef, .int .i64 0, .pointer (some ⟨w.heap.size, 0, none⟩), undef, .int .u8 (x.2.toNat : Int), .string ⟨s.toArray⟩, .slice (some ⟨w.heap.size + 1, 0, none⟩) s.length cap, .func (.func 121) #[] #[.pointer (some ⟨w.heap.size + 2, 0, none⟩)], .int .i64 (x.1 : Int), .int .u8 (x.2.toNat : Int), undef, undef, undef, undef, undef, undef], defers := [] }) ?assign ?body ?done ?stop
  case keep =>
    intro W l o o' hl ho _ _ p hp v hv
    have hne : p.block ≠ l := by omega
    have e : (W.putObj l o').heap[p.block]? = W.heap[p.block]? := World.putObj_heap_other hne
    unfold World.cell? at hv ⊢
    simp only [e]; exact hv
  case assign =>
    intro l x W K hK
    gi_wp2
    exact hK
  case body =>
    rintro l pre x W ⟨⟨hc, hf⟩, hB⟩ hpl
    gi_wp2
    obtain ⟨m, hm, hm2⟩ := numR_nat pre
    have hm3 : m < 281474976710656 := Nat.lt_of_lt_of_le hm2 (Nat.le_trans (Nat.pow_le_pow_right (n := 256) (by decide) (show pre.length ≤ 6 by omega)) (by decide))
    have hx : numR (pre ++ [x]) 0 = bits .or .i64 (wrap64 (numR pre 0 * 256)) (wrap64 (x.2.toNat : Int)) := by rw [numR_snoc, hm, or_byte m x.2 hm3]
    refine ⟨(KeepsOthers.setCell _ _ _).from _, fun p hp v hv => ?_, ⟨by rw [hx]; exact World.cell?_setCell_same' _ _ _ (by rw [hc]; rfl), by rw [World.frozen?_setCell]; exact hf⟩, hB.setCell (p := ⟨w.heap.size, 0, none⟩) (Nat.le_refl _) _⟩
    rw [World.cell?_setCell_other _ _ _ _ (fun e => by rw [← e] at hp; simp at hp)]; exact hv
  case done =>
    rintro D ys W hD rfl ⟨⟨hc, _⟩, hB⟩ hK
    gi_wp2
    refine ⟨by simp, .inl ⟨_, _, rfl, run_takeDeferred hK, ?_⟩⟩
    exact ⟨_, results_tmp rfl _ _ _, rfl, hB.trans (belowK_b (w := w) (Nat.le_refl _) W D _ _ (by omega) hK rfl rfl)⟩
  case stop =>
    rintro D c pre W _ _ h _
    exact h.elim
theorem numR_rev : ∀ (zs : List UInt8) (l : List (Nat × UInt8)), l.map (·.2) = zs.reverse → numR l 0 = (numL zs : Int)
  | [], l, h => by
    have : l = [] := by simpa using h
    subst this; rfl
  | c :: zs, l, h => by
    obtain ⟨l', x, rfl⟩ : ∃ l' x, l = l' ++ [x] := ⟨l.dropLast, l.getLast (by rintro rfl; simp at h), (List.dropLast_concat_getLast _).symm⟩
    rw [List.map_append, List.reverse_cons] at h
    obtain ⟨h1, h2⟩ := List.append_inj' h rfl
    have h3 : x.2 = c := by simpa using h2
    rw [numR_snoc, numR_rev zs l' h1, h3, numL]
    simp; omega
theorem bk_map (zs : List UInt8) : (upto (bk zs) zs.length).map (·.2) = zs.reverse := by
  apply List.ext_getElem
  · simp [upto]
  · intro i h1 h2
    have hi : i < zs.length := by simpa using h2
    simp only [upto, List.map_map, List.getElem_map, List.getElem_range, Function.comp, bk, List.getElem_reverse]
    rw [List.getElem?_eq_getElem (by omega)]; rfl
theorem p109 (s : List UInt8) (hl : s.length ≤ 7) : PPure Try.prog 109 [.str s] (.int .i64 ((numL s : Nat) : Int)) := by
  refine ⟨by kernel_rfl, fun w X vs hX hv => ?_⟩
  obtain ⟨v0, rfl, hv0⟩ := one_of hv
  obtain rfl := hv0.str_inv
  refine ((callsIn_wide (n := 3)).1 (num_in Fence.wide 3 trivial trivial trivial rfl (by decide) s hl w)).mono ?_
  rintro e w' ⟨rfl, hb⟩
  exact ⟨_, rfl, hb, by rw [numR_rev s _ (bk_map s)]; exact .int _ _⟩
end Go.Proofs.Ythdgdngdfijfhaa
namespace Go.Proofs.Ythdgdngdfijfhaa
open Go.RowKit Go.Proofs
set_option linter.unusedVariables false
attribute [local irreducible] PPure CallN
theorem p94' (s : List UInt8) (hl : s.length ≤ 30000) : PPure Try.prog 94 [.str s] (encF (nextF s)) := p94 p109 s hl
theorem p60' (s0 : List UInt8) (hl : s0.length ≤ 30000) : PPure Try.prog 60 [.str s0] (.tup [encU (openL 62 s0 []).1.1, .int .i64 ((openL 62 s0 []).1.2 : Int), .int .i64 (openL 62 s0 []).2]) := p60 p94' s0 hl
theorem p17' (a w : Int) (s : List UInt8) (hsl : s.length ≤ 140737488355328) : PPure Try.prog 17 [.int .i64 a, .int .i64 w, .str s] (.tup [encU (openF a w s).1.1, .int .i64 (openF a w s).1.2, .int .i64 (openF a w s).2]) := p17 p60' a w s hsl
end Go.Proofs.Ythdgdngdfijfhaa
namespace Go.Proofs.Ythdgdngdfijfhaa
open Go.RowKit Go.Proofs
set_option linter.unusedVariables false
set_option linter.unusedSimpArgs false
attribute [local irreducible] PPure CallN Tops TopsDm T
set_option maxHeartbeats 2000000 in
theorem p17z (s : List UInt8) (hl : s.length ≤ 20000) : PPure Try.prog 17 [.int .i64 0, .int .i64 0, .str s] (.tup [encU (openF 0 0 s).1.1, .int .i64 (openF 0 0 s).1.2, .int .i64 (openF 0 0 s).2]) := by
  have h1 : PPure Try.prog 55 [.int .i64 0, .int .i64 0] (.int .i64 0) := p55 0 0
  have h2 : PPure Try.prog 56 [.bool false, .int .i64 8] (.int .i64 0) := p56 false 8
  have h3 : PPure Try.prog 54 [.list .any [.int .i64 0, .int .i64 0]] (.int .i64 0) := p54_2 0 0
  have hz : openE 0 0 s = 0 := by
    have : largeS s = false := by simp [largeS]; omega
    rw [openE, this]; rfl
  have hs : openF 0 0 s = (((openL 62 s []).1.1, ((openL 62 s []).1.2 : Int)), (openL 62 s []).2) := by simp [openF, hz]
  have h60 := p60' s (by omega)
  rw [hs]
  generalize openL 62 s [] = q at h60 ⊢
  simp only [encU] at h60 ⊢
  (refine ppure_of_T ok17 (by simp only [List.length_cons, List.length_nil]; decide) ?_; refine t_seq ?_)
  have hNE := True.intro; have hC := True.intro; have hA := True.intro; have hP := True.intro
  (replace hA := True.intro; replace hP := And.intro h1 (And.intro h2 (And.intro h3 (And.intro h60 (True.intro)))); repeat' first | ((with_reducible apply gt_call); first | refine ce_callS ?_ | refine ce_callO ?_) | ((with_reducible apply gt_alloc); (refine ce_alloc ?_; intro la ha hn1; replace hNE := And.intro hNE hn1)) | ((with_reducible apply gt_store); refine ce_store ?_) | ((with_reducible apply gt_cond); first | refine c_cond ?_ ?_ | refine c_condB ?_ ?_) | ((with_reducible apply gt_any); refine ce_val ?_) | with_reducible first | apply k_seq | apply t_seq | apply t_reg | apply t_nil | apply t_skip | apply t_ret | apply t_exit | apply k_seq_exit | apply k_seq_ret | apply k_blk_exit | refine k_blk_other (by decide) ?_ | apply k_blk_ret | apply k_blk | apply t_block | apply m_nil | (with_reducible intro hc; with_reducible exact Bool.noConfusion hc) | (with_reducible intro hc; replace hC := And.intro hC hc))
  all_goals ((first | refine cpendE rs17 ?_ | refine cpendNE rs17 ?_); (exact fin_eq))
end Go.Proofs.Ythdgdngdfijfhaa
namespace Go.Proofs.Ythdgdngdfijfhaa
open Go.RowKit Go.Proofs
set_option linter.unusedVariables false
set_option linter.unusedSimpArgs false
attribute [local irreducible] PPure CallN Tops TopsDm T
theorem p104 (n : Int) (s : List UInt8) : PPure Try.prog 104 [.int .i64 n, .str s] (.agg [.int .i64 0, .int .i64 n, .str s]) := by
  (refine ppure_of_T ok104 (by simp only [List.length_cons, List.length_nil]; decide) ?_; refine t_seq ?_)
  (have hA := True.intro; have hP := True.intro; have hNE := True.intro; have hC := True.intro; repeat' first
      | with_reducible first | refine k_seq ?_ | refine t_seq ?_ | refine t_reg ?_ | refine t_nil ?_ | refine t_ret ?_
      | refine ae_val ?_
      | (refine ae_alloc ?_; intro la ha hn1; have hNE := And.intro hNE hn1)
      | refine ae_store ?_)
  (first | apply pend rs104 | apply pendN rs104); (focus (simp only [go_sem]; first | done | exact rfl)); (focus (simp only [go_sem]; first | done | exact rfl))
def stayF (u : Un) : Nat := (framesF (u.recs.take u.pos.toNat)).length
def atF (u : Un) (a : Ac) : Nat := (a.number.toNat - 1) * (u.width.toNat + 4)
def evF (u : Un) (a : Ac) (v : Un) : List Ev :=
  if a.kind = 6 then [⟨2, 0, []⟩]
  else if bytesF u = bytesF v then []
  else if u.access = 2 then [⟨0, u.pos, a.bytes⟩]
  else if u.access = 1 then
    (if (bytesF u).length < atF u a then [⟨0, ((bytesF u).length : Nat), List.replicate (atF u a - (bytesF u).length) 0⟩] else []) ++
      [⟨0, (atF u a : Nat), ((bytesF v).take (atF u a + (u.width.toNat + 4))).drop (atF u a)⟩]
  else (if stayF u < (bytesF u).length then [⟨1, (stayF u : Nat), []⟩] else []) ++ [⟨0, (stayF u : Nat), (bytesF v).drop (stayF u)⟩]
def evOK (u : Un) (a : Ac) (v : Un) : Prop :=
  a.kind = 6 ∨ bytesF u = bytesF v ∨ u.access = 2 ∨ (u.access = 1 ∧ 1 ≤ a.number ∧ a.number ≤ 60 ∧ atF u a + (u.width.toNat + 4) ≤ (bytesF v).length) ∨
    (u.access = 0 ∧ u.pos ≤ (u.recs.length : Int) ∧ stayF u ≤ (bytesF v).length)
theorem bytesF_len {u : Un} (h : Vu u) : (bytesF u).length ≤ 20000 := by
  have hv := h
  unfold bytesF
  obtain ⟨ha, hw, hn, hs, ht, hb, hp0, hp1⟩ | ⟨ha, hw0, hw1, hn, ht, hst, hl, hb, he, hp⟩ | ⟨ha, hw, hn, ht, hb, he, hp0, hp1⟩ := h
  · rw [if_neg (by omega), if_pos ha]
    have := framesF_len 200 u.recs hs
    have h2 := Nat.mul_le_mul_right 208 hn
    have h3 : (frmF 69 []).length = 8 := frmF_len _ _
    simp only [List.length_append]
    split <;> simp <;> omega
  · rw [if_neg (by omega), if_neg (by omega)]
    have := slotsN_len hv ha u.recs.length
    omega
  · rw [if_pos ha]; omega
set_option maxHeartbeats 4000000 in
theorem p81 (u v : Un) (a : Ac) (h : Vu u) (hv : Vu v) (hok : evOK u a v) : PPure Try.prog 81 [encU u, encAc a, encU v] (.list .any ((evF u a v).map encEv)) := by
  have h1 := p50 u h
  have h2 := p50 v hv
  have hl1 := bytesF_len h
  have hl2 := bytesF_len hv
  obtain ⟨b, hb⟩ : ∃ b, bytesF u = b := ⟨_, rfl⟩
  obtain ⟨c, hc⟩ : ∃ c, bytesF v = c := ⟨_, rfl⟩
  by_cases h6 : a.kind = 6
  · have e0 : evF u a v = [⟨2, 0, []⟩] := by simp [evF, h6]
    have e6 : decide (a.kind = 6) = true := by simp [h6]
    rw [e0]
    simp only [encU, encAc, encEv, List.map_cons, List.map_nil, hb, hc] at h1 h2 ⊢
    (refine ppure_of_T ok81 (by simp only [List.length_cons, List.length_nil]; decide) ?_; refine t_seq ?_)
    (have hA := e6; have hP := And.intro h1 (And.intro h2 (True.intro)); have hNE := True.intro; have hC := True.intro; repeat' first
        | ((with_reducible apply te_drwA); (focus (simp (maxDischargeDepth := 8) only [effFlA, List.map_cons, List.map_nil]; exact rfl)); (focus decide +kernel))
        | with_reducible first | refine k_seq ?_ | refine t_seq ?_ | refine t_reg ?_ | refine t_nil ?_ | refine t_ret ?_ | refine k_seq_ret ?_ | refine k_blk_ret ?_ | refine t_block ?_ | refine m_nil ?_
        | refine ae_val ?_
        | refine be_val ?_
        | refine be_callS ?_
        | refine ae_box ?_
        | refine a_cond ?_ ?_
        | (with_reducible intro hc; with_reducible exact Bool.noConfusion hc)
        | (with_reducible intro hc; have hC := And.intro hC hc))
    (first | apply pend rs81 | apply pendN rs81); (focus (simp (maxDischargeDepth := 8) only [hNE, go_sem]; first | done | exact rfl)); (focus (simp (maxDischargeDepth := 8) only [hNE, go_sem]; first | done | exact rfl))
  have e6 : decide (a.kind = 6) = false := by simp [h6]
  by_cases hbc : bytesF u = bytesF v
  · have e0 : evF u a v = [] := by simp [evF, h6, hbc]
    have e1 : (b == c) = true := by rw [← hb, ← hc, hbc]; simp
    rw [e0]
    simp only [encU, encAc, encEv, List.map_cons, List.map_nil, hb, hc] at h1 h2 ⊢
    (refine ppure_of_T ok81 (by simp only [List.length_cons, List.length_nil]; decide) ?_; refine t_seq ?_)
    (have hA := And.intro e6 (e1); have hP := And.intro h1 (And.intro h2 (True.intro)); have hNE := True.intro; have hC := True.intro; repeat' first
        | ((with_reducible apply te_drwA); (focus (simp (maxDischargeDepth := 8) only [effFlA, List.map_cons, List.map_nil]; exact rfl)); (focus decide +kernel))
        | with_reducible first | refine k_seq ?_ | refine t_seq ?_ | refine t_reg ?_ | refine t_nil ?_ | refine t_ret ?_ | refine k_seq_ret ?_ | refine k_blk_ret ?_ | refine t_block ?_ | refine m_nil ?_
        | refine ae_val ?_
        | refine be_val ?_
        | refine be_callS ?_
        | refine ae_box ?_
        | refine a_cond ?_ ?_
        | (with_reducible intro hc; with_reducible exact Bool.noConfusion hc)
        | (with_reducible intro hc; have hC := And.intro hC hc))
    (first | apply pend rs81 | apply pendN rs81); (focus (simp (maxDischargeDepth := 8) only [hNE, go_sem]; first | done | exact rfl)); (focus (simp (maxDischargeDepth := 8) only [hNE, go_sem]; first | done | exact rfl))
  have e1 : (b == c) = false := by rw [← hb, ← hc]; simpa using hbc
  by_cases ha2 : u.access = 2
  · have e0 : evF u a v = [⟨0, u.pos, a.bytes⟩] := by simp [evF, h6, hbc, ha2]
    have h3 := p104 u.pos a.bytes
    rw [e0]
    simp only [encU, encAc, encEv, List.map_cons, List.map_nil, hb, hc, ha2] at h1 h2 ⊢
    (refine ppure_of_T ok81 (by simp only [List.length_cons, List.length_nil]; decide) ?_; refine t_seq ?_)
    (have hA := And.intro e6 (e1); have hP := And.intro h1 (And.intro h2 (And.intro h3 (True.intro))); have hNE := True.intro; have hC := True.intro; repeat' first
        | ((with_reducible apply te_drwA); (focus (simp (maxDischargeDepth := 8) only [effFlA, List.map_cons, List.map_nil]; exact rfl)); (focus decide +kernel))
        | with_reducible first | refine k_seq ?_ | refine t_seq ?_ | refine t_reg ?_ | refine t_nil ?_ | refine t_ret ?_ | refine k_seq_ret ?_ | refine k_blk_ret ?_ | refine t_block ?_ | refine m_nil ?_
        | refine ae_val ?_
        | refine ae_callS ?_
        | refine be_val ?_
        | refine be_callS ?_
        | refine ae_box ?_
        | refine a_cond ?_ ?_
        | (with_reducible intro hc; with_reducible exact Bool.noConfusion hc)
        | (with_reducible intro hc; have hC := And.intro hC hc))
    (first | apply pend rs81 | apply pendN rs81); (focus (simp (maxDischargeDepth := 8) only [hNE, go_sem]; first | done | exact rfl)); (focus (simp (maxDischargeDepth := 8) only [hNE, go_sem]; first | done | exact rfl))
  have e2 : decide (u.access = 2) = false := by simp [ha2]
  by_cases ha1 : u.access = 1
  · have hok2 : 1 ≤ a.number ∧ a.number ≤ 60 ∧ atF u a + (u.width.toNat + 4) ≤ (bytesF v).length := by
      rcases hok with k | k | k | k | k
      · exact absurd k h6
      · exact absurd k hbc
      · exact absurd k ha2
      · exact k.2
      · omega
    have hw : 1 ≤ u.width ∧ u.width ≤ 200 := by rcases h with k | k | k <;> omega
    obtain ⟨g1, g2, g3⟩ := hok2
    have h62 := p62 u ⟨by omega, by omega⟩
    obtain ⟨A, hA⟩ : ∃ A, atF u a = A := ⟨_, rfl⟩
    obtain ⟨W, hW⟩ : ∃ W, u.width.toNat = W := ⟨_, rfl⟩
    have hw2 : u.width = (W : Int) := by omega
    have hAi : (a.number - 1) * ((W : Int) + 4) = (A : Int) := by
      rw [← hA, atF, hW, show a.number - 1 = ((a.number.toNat - 1 : Nat) : Int) by omega]; simp
    have w1 : IntKind.i64.wrap (a.number - 1) = a.number - 1 := by rw [IntKind.wrap_i64]; omega
    have w2 : IntKind.i64.wrap ((a.number - 1) * ((W : Int) + 4)) = (A : Int) := by rw [hAi, IntKind.wrap_i64]; omega
    have w3 : IntKind.i64.wrap ((A : Int) + ((W : Int) + 4)) = ((A + (W + 4) : Nat) : Int) := by rw [IntKind.wrap_i64]; omega
    have b1 : (0 : Int) ≤ (A : Int) := by omega
    have b2 : (A : Int) ≤ ((A + (W + 4) : Nat) : Int) := by omega
    have b3 : ((A + (W + 4) : Nat) : Int) ≤ (c.length : Int) := by rw [hA, hW, hc] at g3; omega
    have h3 := p104 (A : Int) ((c.take (A + (W + 4))).drop A)
    rw [hb] at hl1
    by_cases hlt : (bytesF u).length < atF u a
    · have e0 : evF u a v = [⟨0, (b.length : Nat), List.replicate (A - b.length) 0⟩, ⟨0, (A : Nat), (c.take (A + (W + 4))).drop A⟩] := by
        simp only [evF, h6, hbc, ha2, ha1, hlt, if_true, if_false]
        rw [hA, hW, hb, hc]; rfl
      rw [hA, hb] at hlt
      have e3 : decide ((b.length : Int) < (A : Int)) = true := by simp; omega
      have w4 : IntKind.i64.wrap ((A : Int) - (b.length : Int)) = ((A - b.length : Nat) : Int) := by rw [IntKind.wrap_i64]; omega
      have h4 : PPure Try.prog 89 [.int .i64 ((A - b.length : Nat) : Int)] (.str (List.replicate (A - b.length) 0)) := p89 _ (by
        have := congrArg List.length hc; omega)
      have h5 := p104 (b.length : Int) (List.replicate (A - b.length) 0)
      rw [e0]
      simp only [encU, encAc, encEv, List.map_cons, List.map_nil, hb, hc, ha1, hw2] at h1 h2 h62 ⊢
      (refine ppure_of_T ok81 (by simp only [List.length_cons, List.length_nil]; decide) ?_; refine t_seq ?_)
      (have hA := And.intro e6 (And.intro e1 (And.intro w1 (And.intro w2 (And.intro w3 (And.intro b1 (And.intro b2 (And.intro b3 (And.intro e3 (w4))))))))); have hP := And.intro h1 (And.intro h2 (And.intro h62 (And.intro h3 (And.intro h4 (And.intro h5 (True.intro)))))); have hNE := True.intro; have hC := True.intro; repeat' first
          | ((with_reducible apply te_drwA); (focus (simp (maxDischargeDepth := 8) only [effFlA, List.map_cons, List.map_nil]; exact rfl)); (focus decide +kernel))
          | with_reducible first | refine k_seq ?_ | refine t_seq ?_ | refine t_reg ?_ | refine t_nil ?_ | refine t_ret ?_ | refine k_seq_ret ?_ | refine k_blk_ret ?_ | refine t_block ?_ | refine m_nil ?_
          | refine ae_val ?_
          | refine ae_callS ?_
          | ((with_reducible apply te_appendL); (with_reducible exact app_67; with_reducible exact c_71); (focus (simp (maxDischargeDepth := 8) only [go_sem, hNE, hA]; first | done | exact rfl)); (focus (simp (maxDischargeDepth := 8) only [go_sem, hNE, hA]; first | done | exact rfl)); exact rfl; (focus (first | exact rfl | (simp (maxDischargeDepth := 8) only [go_sem, hNE, hA]; done))); (focus (simp (maxDischargeDepth := 8) only [go_sem, hNE, hA]; done)); (focus (simp (maxDischargeDepth := 8) only [go_sem, hNE, hA]; done)); (focus (simp (maxDischargeDepth := 8) only [go_sem, hNE, hA, roomB, List.length_take, List.length_append]; first | done | omega)); (intro la ha hn1; have hNE := And.intro hNE hn1))
          | refine be_val ?_
          | refine be_callS ?_
          | refine ae_box ?_
          | ((with_reducible apply te_appendB); (with_reducible exact app_67; with_reducible exact c_71); (focus (simp (maxDischargeDepth := 8) only [go_sem, hNE, hA]; first | done | exact rfl)); (focus (simp (maxDischargeDepth := 8) only [go_sem, hNE, hA]; first | done | exact rfl)); (focus (simp (maxDischargeDepth := 8) only [go_sem, hNE, hA, roomB, List.length_take, List.length_append]; first | done | omega)); (focus (simp (maxDischargeDepth := 8) only [go_sem, hNE, hA]; first | done | exact rfl)); (focus (simp (maxDischargeDepth := 8) only [go_sem, hNE, hA]; done)); (focus (simp (maxDischargeDepth := 8) only [go_sem, hNE, hA, roomB, List.length_take, List.length_append]; first | done | omega)); (intro la ha hn1; have hNE := And.intro hNE hn1))
          | refine a_cond ?_ ?_
          | (with_reducible intro hc; with_reducible exact Bool.noConfusion hc)
          | (with_reducible intro hc; have hC := And.intro hC hc))
      (first | apply pend rs81 | apply pendN rs81); (focus (simp (maxDischargeDepth := 8) only [hNE, go_sem]; first | done | exact rfl)); (focus (simp (maxDischargeDepth := 8) only [hNE, go_sem]; first | done | exact rfl))
    · have e0 : evF u a v = [⟨0, (A : Nat), (c.take (A + (W + 4))).drop A⟩] := by
        simp only [evF, h6, hbc, ha2, ha1, hlt, if_true, if_false]
        rw [hA, hW, hc]; rfl
      rw [hA, hb] at hlt
      have e3 : decide ((b.length : Int) < (A : Int)) = false := by simp; omega
      rw [e0]
      simp only [encU, encAc, encEv, List.map_cons, List.map_nil, hb, hc, ha1, hw2] at h1 h2 h62 ⊢
      (refine ppure_of_T ok81 (by simp only [List.length_cons, List.length_nil]; decide) ?_; refine t_seq ?_)
      (have hA := And.intro e6 (And.intro e1 (And.intro w1 (And.intro w2 (And.intro w3 (And.intro b1 (And.intro b2 (And.intro b3 (e3)))))))); have hP := And.intro h1 (And.intro h2 (And.intro h62 (And.intro h3 (True.intro)))); have hNE := True.intro; have hC := True.intro; repeat' first
          | ((with_reducible apply te_drwA); (focus (simp (maxDischargeDepth := 8) only [effFlA, List.map_cons, List.map_nil]; exact rfl)); (focus decide +kernel))
          | with_reducible first | refine k_seq ?_ | refine t_seq ?_ | refine t_reg ?_ | refine t_nil ?_ | refine t_skip ?_ | refine t_ret ?_ | refine k_seq_ret ?_ | refine k_blk_ret ?_ | refine t_block ?_ | refine m_nil ?_
          | refine ae_val ?_
          | refine ae_callS ?_
          | ((with_reducible apply te_appendL); (with_reducible exact app_67; with_reducible exact c_71); (focus (simp (maxDischargeDepth := 8) only [go_sem, hNE, hA]; first | done | exact rfl)); (focus (simp (maxDischargeDepth := 8) only [go_sem, hNE, hA]; first | done | exact rfl)); exact rfl; (focus (first | exact rfl | (simp (maxDischargeDepth := 8) only [go_sem, hNE, hA]; done))); (focus (simp (maxDischargeDepth := 8) only [go_sem, hNE, hA]; done)); (focus (simp (maxDischargeDepth := 8) only [go_sem, hNE, hA]; done)); (focus (simp (maxDischargeDepth := 8) only [go_sem, hNE, hA, roomB, List.length_take, List.length_append]; first | done | omega)); (intro la ha hn1; have hNE := And.intro hNE hn1))
          | refine be_val ?_
          | refine be_callS ?_
          | refine ae_box ?_
          | refine a_cond ?_ ?_
          | (with_reducible intro hc; with_reducible exact Bool.noConfusion hc)
          | (with_reducible intro hc; have hC := And.intro hC hc))
      (first | apply pend rs81 | apply pendN rs81); (focus (simp (maxDischargeDepth := 8) only [hNE, go_sem]; first | done | exact rfl)); (focus (simp (maxDischargeDepth := 8) only [hNE, go_sem]; first | done | exact rfl))
  have e4 : decide (u.access = 1) = false := by simp [ha1]
  have hac : u.access = 0 := by rcases h with k | k | k <;> omega
  have hok2 : u.pos ≤ (u.recs.length : Int) ∧ stayF u ≤ (bytesF v).length := by
    rcases hok with k | k | k | k | k
    · exact absurd k h6
    · exact absurd k hbc
    · exact absurd k ha2
    · omega
    · exact k.2
  obtain ⟨g1, g2⟩ := hok2
  have hvu : 0 ≤ u.pos ∧ u.recs.length ≤ 60 ∧ ∀ s ∈ u.recs, s.length ≤ 200 := by
    rcases h with k | k | k
    · exact ⟨k.2.2.2.2.2.2.1, k.2.2.1, k.2.2.2.1⟩
    · omega
    · omega
  obtain ⟨g3, g4, g5⟩ := hvu
  obtain ⟨p, hp⟩ : ∃ p, u.pos.toNat = p := ⟨_, rfl⟩
  have hpi : u.pos = (p : Int) := by omega
  have h85 := p85 (u.recs.take p) (by simp; omega) (fun s hs => by have := g5 s (List.mem_of_mem_take hs); omega)
  obtain ⟨F, hF⟩ : ∃ F, framesF (u.recs.take p) = F := ⟨_, rfl⟩
  have hst : stayF u = F.length := by rw [stayF, hp, hF]
  rw [hF] at h85
  rw [hst, hc] at g2
  have b1 : (0 : Int) ≤ (p : Int) := by omega
  have b2 : (p : Int) ≤ (u.recs.length : Int) := by omega
  have b3 : (0 : Int) ≤ (F.length : Int) := by omega
  have b4 : (F.length : Int) ≤ (c.length : Int) := by omega
  have h3 := p104 (F.length : Int) (c.drop F.length)
  by_cases hlt : F.length < b.length
  · have e0 : evF u a v = [⟨1, (F.length : Nat), []⟩, ⟨0, (F.length : Nat), c.drop F.length⟩] := by
      simp only [evF, h6, hbc, ha2, ha1, if_false]
      rw [hst, hb, hc, if_pos hlt]; rfl
    have e3 : decide ((F.length : Int) < (b.length : Int)) = true := by simp; omega
    rw [e0]
    simp only [encU, encAc, encEv, List.map_cons, List.map_nil, hb, hc, hac, hpi] at h1 h2 ⊢
    (refine ppure_of_T ok81 (by simp only [List.length_cons, List.length_nil]; decide) ?_; refine t_seq ?_)
    (have hA := And.intro e6 (And.intro e1 (And.intro b1 (And.intro b2 (And.intro b3 (And.intro b4 (e3)))))); have hP := And.intro h1 (And.intro h2 (And.intro h85 (And.intro h3 (True.intro)))); have hNE := True.intro; have hC := True.intro; repeat' first
        | ((with_reducible apply te_drwA); (focus (simp (maxDischargeDepth := 8) only [effFlA, List.map_cons, List.map_nil]; exact rfl)); (focus decide +kernel))
        | with_reducible first | refine k_seq ?_ | refine t_seq ?_ | refine t_reg ?_ | refine t_nil ?_ | refine t_skip ?_ | refine t_ret ?_ | refine k_blk ?_ | refine t_block ?_ | refine m_nil ?_
        | refine ae_val ?_
        | refine ae_callS ?_
        | ((with_reducible apply te_appendL); (with_reducible exact app_67; with_reducible exact c_71); (focus (simp (maxDischargeDepth := 8) only [go_sem, hNE, hA]; first | done | exact rfl)); (focus (simp (maxDischargeDepth := 8) only [go_sem, hNE, hA]; first | done | exact rfl)); exact rfl; (focus (first | exact rfl | (simp (maxDischargeDepth := 8) only [go_sem, hNE, hA]; done))); (focus (simp (maxDischargeDepth := 8) only [go_sem, hNE, hA]; done)); (focus (simp (maxDischargeDepth := 8) only [go_sem, hNE, hA]; done)); (focus (simp (maxDischargeDepth := 8) only [go_sem, hNE, hA, roomB, List.length_take, List.length_append]; first | done | omega)); (intro la ha hn1; have hNE := And.intro hNE hn1))
        | refine be_val ?_
        | refine be_callS ?_
        | refine ae_box ?_
        | ((with_reducible apply te_appendB); (with_reducible exact app_67; with_reducible exact c_71); (focus (simp (maxDischargeDepth := 8) only [go_sem, hNE, hA]; first | done | exact rfl)); (focus (simp (maxDischargeDepth := 8) only [go_sem, hNE, hA]; first | done | exact rfl)); (focus (simp (maxDischargeDepth := 8) only [go_sem, hNE, hA, roomB, List.length_take, List.length_append]; first | done | omega)); (focus (simp (maxDischargeDepth := 8) only [go_sem, hNE, hA]; first | done | exact rfl)); (focus (simp (maxDischargeDepth := 8) only [go_sem, hNE, hA]; done)); (focus (simp (maxDischargeDepth := 8) only [go_sem, hNE, hA, roomB, List.length_take, List.length_append]; first | done | omega)); (intro la ha hn1; have hNE := And.intro hNE hn1))
        | refine a_cond ?_ ?_
        | (with_reducible intro hc; with_reducible exact Bool.noConfusion hc)
        | (with_reducible intro hc; have hC := And.intro hC hc))
    (first | apply pend rs81 | apply pendN rs81); (focus (simp (maxDischargeDepth := 8) only [hNE, go_sem]; first | done | exact rfl)); (focus (simp (maxDischargeDepth := 8) only [hNE, go_sem]; first | done | exact rfl))
  · have e0 : evF u a v = [⟨0, (F.length : Nat), c.drop F.length⟩] := by
      simp only [evF, h6, hbc, ha2, ha1, if_false]
      rw [hst, hb, hc, if_neg hlt]; rfl
    have e3 : decide ((F.length : Int) < (b.length : Int)) = false := by simp; omega
    rw [e0]
    simp only [encU, encAc, encEv, List.map_cons, List.map_nil, hb, hc, hac, hpi] at h1 h2 ⊢
    (refine ppure_of_T ok81 (by simp only [List.length_cons, List.length_nil]; decide) ?_; refine t_seq ?_)
    (have hA := And.intro e6 (And.intro e1 (And.intro b1 (And.intro b2 (And.intro b3 (And.intro b4 (e3)))))); have hP := And.intro h1 (And.intro h2 (And.intro h85 (And.intro h3 (True.intro)))); have hNE := True.intro; have hC := True.intro; repeat' first
        | ((with_reducible apply te_drwA); (focus (simp (maxDischargeDepth := 8) only [effFlA, List.map_cons, List.map_nil]; exact rfl)); (focus decide +kernel))
        | with_reducible first | refine k_seq ?_ | refine t_seq ?_ | refine t_reg ?_ | refine t_nil ?_ | refine t_skip ?_ | refine t_ret ?_ | refine k_blk ?_ | refine t_block ?_ | refine m_nil ?_
        | refine ae_val ?_
        | refine ae_callS ?_
        | ((with_reducible apply te_appendL); (with_reducible exact app_67; with_reducible exact c_71); (focus (simp (maxDischargeDepth := 8) only [go_sem, hNE, hA]; first | done | exact rfl)); (focus (simp (maxDischargeDepth := 8) only [go_sem, hNE, hA]; first | done | exact rfl)); exact rfl; (focus (first | exact rfl | (simp (maxDischargeDepth := 8) only [go_sem, hNE, hA]; done))); (focus (simp (maxDischargeDepth := 8) only [go_sem, hNE, hA]; done)); (focus (simp (maxDischargeDepth := 8) only [go_sem, hNE, hA]; done)); (focus (simp (maxDischargeDepth := 8) only [go_sem, hNE, hA, roomB, List.length_take, List.length_append]; first | done | omega)); (intro la ha hn1; have hNE := And.intro hNE hn1))
        | refine be_val ?_
        | refine be_callS ?_
        | refine ae_box ?_
        | refine a_cond ?_ ?_
        | (with_reducible intro hc; with_reducible exact Bool.noConfusion hc)
        | (with_reducible intro hc; have hC := And.intro hC hc))
    (first | apply pend rs81 | apply pendN rs81); (focus (simp (maxDischargeDepth := 8) only [hNE, go_sem]; first | done | exact rfl)); (focus (simp (maxDischargeDepth := 8) only [hNE, go_sem]; first | done | exact rfl))
end Go.Proofs.Ythdgdngdfijfhaa
