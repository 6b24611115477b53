/- Part 2 of the proof: what the claim needs of the framework, the contracts of functions, and the laws. No conditions. -/
import Derived.Test.YthdgdngdfijfhaaUW1
import Derived.LoopN
import Derived.WalkKit
import Derived.ProofKit
import Derived.OpenShut
import Derived.ShutString
import Derived.ChangeOld
import Derived.SizedLaws
import Derived.Carry
import Derived.Deep.Slices
namespace Go.Proofs.Ythdgdngdfijfhaa
open Go.RowKit
set_option linter.unusedVariables false
set_option linter.unusedSimpArgs false
section
variable {z : Bool} {P : Program} {X0 : Nat → Prop}
theorem opEff_mono {full : Bool} {s : St} {op : Op} {K K' : PV → Hp → Prop} (h : opEff P full s op K) (hk : ∀ v H, K v H → K' v H) : opEff P full s op K' := by
  unfold opEff at h ⊢
  split at h
  · obtain ⟨z, hz, hd, h⟩ := h; exact ⟨z, hz, hd, fun l hg hl => (h l hg hl).imp (hk _ _) (hk _ _)⟩
  · exact ⟨h.1, h.2.imp (hk _ _) fun h l hl => hk _ _ (h l hl)⟩
  · obtain ⟨h1, l, sz, i, off, xs, e, h2, h3, h4, h5, h6, h7, h8, h9, h10, h⟩ := h
    exact ⟨h1, l, sz, i, off, xs, e, h2, h3, h4, h5, h6, h7, h8, h9, h10, hk _ _ h⟩
  · obtain ⟨e, k, k', a, z, h1, h2, h3, h4, h5, h6, h7, h8, h9, h⟩ := h
    exact ⟨e, k, k', a, z, h1, h2, h3, h4, h5, h6, h7, h8, h9, fun l hl => hk _ _ (h l hl)⟩
  · obtain ⟨t0, t1, x, y, e, h1, h2, h3, h4, ys, h5, h6, h7, h8, h9, h⟩ := h
    refine ⟨t0, t1, x, y, e, h1, h2, h3, h4, ys, h5, h6, h7, h8, h9, ?_⟩
    split at h
    · rename_i k xs e
      obtain ⟨g1, g2, g3, h⟩ := h
      refine ⟨g1, g2, g3, ?_⟩
      split at h
      · rename_i hy; rw [if_pos hy]; exact hk _ _ h
      · rename_i hy; rw [if_neg hy]; exact fun l hl => hk _ _ (h l hl)
    · obtain ⟨g1, g2, g3, g4, xs, g5, g6, h⟩ := h
      exact ⟨g1, g2, g3, g4, xs, g5, g6, hk _ _ h.1, fun l hl => (h.2 l hl).imp (hk _ _) (hk _ _)⟩
    · exact h
  · obtain ⟨h1, t0, t1, x, y, e, h2, h3, h4, h5, l, sz, lo, len, xs, ys, g1, g2, g3, g4, g5, g6, g7, h⟩ := h
    exact ⟨h1, t0, t1, x, y, e, h2, h3, h4, h5, l, sz, lo, len, xs, ys, g1, g2, g3, g4, g5, g6, g7, hk _ _ h⟩
  · exact h.elim
theorem CallsG.mono {f : FuncId} {as : List PV} {H : Hp} {K K' : PV → Hp → Prop} (h : CallsG P f as H K) (hk : ∀ v H, K v H → K' v H) : CallsG P f as H K' :=
  ⟨h.1, fun N w X vs h1 h2 h0 h3 => (h.2 N w X vs h1 h2 h0 h3).mono fun e w' ⟨v, r, H', he, g1, g2, g3, g4, gg, g5⟩ => ⟨v, r, H', he, g1, g2, g3, g4, gg, hk _ _ g5⟩⟩
theorem CallOK.mono {f : FuncId} {as : List PV} {H : Hp} {K K' : PV → Hp → Prop} (h : CallOK P f as H K) (hk : ∀ v H, K v H → K' v H) : CallOK P f as H K' := by
  rcases h with ⟨keep, n, as', r, h1, h2, h3, h4⟩ | ⟨keep, n, L, as', r, h1, h2, h3⟩ | h
  · exact .inl ⟨keep, n, as', r, h1, h2, h3, hk _ _ h4⟩
  · exact .inr (.inl ⟨keep, n, L, as', r, h1, h2, hk _ _ h3⟩)
  · exact .inr (.inr (h.mono hk))
theorem top_mono {o : Oper} {s : St} {K K' : St → Prop} (h : Top P o s K) (hk : ∀ s, K s → K' s) : Top P o s K' := by
  unfold Top at h ⊢
  split at h
  · rename_i g args ts ho
    split at h
    · exact h.mono fun r H h => hk _ h
    · exact h.mono fun r H h => hk _ h
    · exact h
  · split at h
    · rename_i hE
      rw [if_pos hE]
      exact opEff_mono h fun v H h => hk _ h
    · rename_i hE
      rw [if_neg hE]
      obtain ⟨v, hv, h⟩ := h
      exact ⟨v, hv, hk _ h⟩
theorem topQ_keeps {o : Oper} {Hr : Hp} {s : St} {K : St → Prop} (hsub : ∀ l c, Hr l = some c → s.H l = some c) (h : TopQ P o Hr s K) : Top P o s fun s' => (∀ l c, Hr l = some c → s'.H l = some c) ∧ K s' := by
  refine TopQ.top hsub ?_
  rcases h.qs with ⟨v, _, hv, hK⟩ | ⟨mk, c, m, hm, _, hHr, hn, hv, hK⟩
  · exact hv s (fun _ _ => rfl) _ ⟨by rw [put_H']; exact hsub, hK⟩
  · refine hv s (fun _ _ => rfl) hn _ (fun l hl => ⟨fun l' c' h' => ?_, hK l hl⟩)
    rw [put_H']
    have h2 := hsub l' c' h'
    have : l' ≠ l := by
      intro e; subst e
      rcases hl with hl | hl
      · rw [hl] at h2; cases h2
      · cases hm' : m with
        | none => rw [hm'] at hl; cases hl
        | some q =>
          rw [hm'] at hl
          have hq : q.1 = l' := by simpa using hl
          have := hHr q hm'
          rw [hq, h'] at this; cases this
    show upd s.H l (some c) l' = some c'
    rw [upd_ne _ _ this]
    exact h2
theorem Step.free {ops : Array Oper} {Hr : Hp} {o : Oper} {s : St} {K : St → Prop} (hf : FreeInf s.H) (h : Step P ops Hr o s K) : Step P ops Hr o s fun s' => FreeInf s'.H ∧ K s' := by
  rcases step_cases h with ⟨v, _, hv, hK⟩ | ⟨mk, c, m, _, _, _, hn, _, hv, hK⟩
  · exact hv s (fun _ _ => rfl) (fun _ _ => Iff.rfl) _ ⟨by rw [put_H']; exact hf, hK⟩
  · exact hv s (fun _ _ => rfl) (fun _ _ => Iff.rfl) hn _ (fun l hl => ⟨by rw [put_H']; exact hf.upd l _, hK l hl⟩)
theorem sub_upd {H : Hp} {l : Lab} {c : Option Chunk} (hl : H l = none) : ∀ l' c', H l' = some c' → upd H l c l' = some c' := fun l' c' e => by
  rw [upd_ne _ _ (by intro e'; subst e'; rw [hl] at e; cases e)]; exact e
theorem CallOK.beside {f : FuncId} {as : List PV} {H : Hp} {K : PV → Hp → Prop} {l : Lab} {sz : Nat} {xs : List PV} (hl : H l = none) (h : CallOK P f as H K) :
    CallOK P f as (upd H l (some (.row true sz xs))) fun r H2 => ∃ H', K r H' ∧ H' l = none ∧ H2 = upd H' l (some (.row true sz xs)) := by
  rcases h with ⟨keep, n, as', r, hn, hs, hp, hK⟩ | ⟨keep, n, L, as', r, hn, hp, hK⟩ | hG
  · exact .inl ⟨keep, n, as', r, mapM_mono (norm_mono (sub_upd hl) n) hn, hs, hp, H, hK, hl, rfl⟩
  · have e1 : restr (L.filter (· ≠ l)) (upd H l (some (.row true sz xs))) = restr L H := by
      funext l'
      simp only [restr, List.mem_filter, upd_apply, decide_eq_true_eq]
      by_cases e : l' = l
      · subst e; simp [hl]
      · simp [e]
    have e2 : frz (L.filter (· ≠ l)) (upd H l (some (.row true sz xs))) = upd (frz L H) l (some (.row true sz xs)) := by
      funext l'
      simp only [frz, List.mem_filter, upd_apply, decide_eq_true_eq]
      by_cases e : l' = l
      · subst e; simp
      · simp [e]
    refine .inr (.inl ⟨keep, n, L.filter (· ≠ l), as', r, by rw [e1]; exact hn, hp, frz L H, hK, by simp [frz, hl], e2⟩)
  · refine .inr (.inr (hG.frame (sub_upd hl) ?_))
    intro r H' hK hf hn
    have h0 : H' l = none := hf l sz xs (by simp) hl
    refine ⟨H', hK, h0, ?_⟩
    funext l'
    simp only [glue, upd_apply]
    by_cases e : l' = l
    · subst e; simp [h0, hl]
    · simp only [e, if_false]
      cases e1 : H' l' with
      | some c => rfl
      | none => cases e2 : H l' <;> simp
theorem CallOK.free {f : FuncId} {as : List PV} {H : Hp} {K : PV → Hp → Prop} (hf : FreeInf H) (h : CallOK P f as H K) : CallOK P f as H fun r H' => FreeInf H' ∧ K r H' := by
  rcases h with ⟨keep, n, as', r, hn, hs, hp, hK⟩ | ⟨keep, n, L, as', r, hn, hp, hK⟩ | hG
  · exact .inl ⟨keep, n, as', r, hn, hs, hp, hf, hK⟩
  · obtain ⟨N, hN⟩ := hf
    exact .inr (.inl ⟨keep, n, L, as', r, hn, hp, ⟨N, fun b hb => by simp [frz, hN b hb]⟩, hK⟩)
  · exact .inr (.inr (hG.mono' fun v H' hK hF => ⟨hF, hK⟩))
theorem Top.freeC {x : Oper} {s : St} {K : St → Prop} (hx : userCall x = true) (hf : FreeInf s.H) (h : Top P x s K) : Top P x s fun s' => FreeInf s'.H ∧ K s' := by
  unfold Top at h ⊢
  split at h
  · split at h
    · exact (CallOK.free hf h).mono fun r H h => ⟨by rw [put_H']; exact h.1, h.2⟩
    · exact (CallOK.free hf h).mono fun r H h => ⟨by rw [put_H']; exact h.1, h.2⟩
    · exact h
  · rename_i hno
    exfalso
    unfold userCall at hx
    split at hx
    · rename_i g args ts ho; exact hno _ _ _ ho
    · cases hx
theorem Top.beside {x : Oper} {s : St} {K : St → Prop} {d : Option Tmp} {v : PV} {l : Lab} {sz : Nat} {xs : List PV} (hx : userCall x = true) (he : ∀ z ∈ x.op.operands, evo (s.put d v) z = evo s z) (hl : s.H l = none) (h : Top P x s K) :
    Top P x ({ s with H := upd s.H l (some (.row true sz xs)) }.put d v) fun s2 => ∃ H' r, K (({ s with H := H' } : St).put x.dst r) ∧ H' l = none ∧ s2 = ({ s with H := upd H' l (some (.row true sz xs)) }.put d v).put x.dst r := by
  have he' : ∀ z ∈ x.op.operands, evo ({ s with H := upd s.H l (some (.row true sz xs)) }.put d v) z = evo s z := fun z hz => by rw [put_H, evo_H]; exact he z hz
  unfold Top at h ⊢
  split at h
  · rename_i g args ts ho
    rw [ho] at he'
    have hg' := he' g (by simp [Op.operands, Call.operands])
    have hm : args.toList.map (evo ({ s with H := upd s.H l (some (.row true sz xs)) }.put d v)) = args.toList.map (evo s) := List.map_congr_left fun z hz => he' z (by simp [Op.operands, Call.operands]; exact .inr (by simpa using hz))
    simp only [hg', hm, put_H']
    split
    · rename_i f caps hg
      rw [hg] at h
      refine (CallOK.beside hl h).mono ?_
      rintro r H2 ⟨H', hK, h0, rfl⟩
      exact ⟨H', r, hK, h0, by simp only [put_H]⟩
    · rename_i f caps hg
      rw [hg] at h
      refine (CallOK.beside hl h).mono ?_
      rintro r H2 ⟨H', hK, h0, rfl⟩
      exact ⟨H', r, hK, h0, by simp only [put_H]⟩
    · rename_i h1 h2
      split at h
      · rename_i f caps hg; exact absurd hg (h1 _ _)
      · rename_i f caps hg; exact absurd hg (h2 _ _)
      · exact h
  · rename_i hno
    exfalso
    unfold userCall at hx
    split at hx
    · rename_i g args ts ho; exact hno _ _ _ ho
    · cases hx
theorem TopsD.front {ops : Array Oper} {y : Oper} {K : St → Prop} {B : List (Oper × Bool)} : ∀ (A : List (Oper × Bool)) (Hr : Hp) (s : St), FreeInf s.H →
    (∀ q ∈ A, q.1.apart ops y = true ∧ ((q.2 = false ∧ ((makes q.1 = false ∧ userCall q.1 = false) ∨ userCall y = false) ∧ (isApp q.1 = false ∨ isApp y = false)) ∨ (q.2 = true ∧ userCall q.1 = true ∧ isAlloc y = true))) → TopsD P z ops (A ++ (y, false) :: B) Hr s K → TopsD P z ops ((y, false) :: (A ++ B)) Hr s K
  | [], Hr, s, _, _, h => h
  | (x, fx) :: A, Hr, s, hf, hA, h => by
    obtain ⟨hap, hx⟩ := hA _ List.mem_cons_self
    have hA' : ∀ q ∈ A, q.1.apart ops y = true ∧ ((q.2 = false ∧ ((makes q.1 = false ∧ userCall q.1 = false) ∨ userCall y = false) ∧ (isApp q.1 = false ∨ isApp y = false)) ∨ (q.2 = true ∧ userCall q.1 = true ∧ isAlloc y = true)) := fun q hq => hA q (List.mem_cons_of_mem _ hq)
    rcases hx with ⟨hx, hmk, happ⟩ | ⟨hx, hxc, hya⟩
    · have hx : fx = false := hx
      subst hx
      have h : Step P ops Hr x s fun s' => TopsD P z ops (A ++ (y, false) :: B) Hr s' K := h
      have h1 : Step P ops Hr x s fun s' => Step P ops Hr y s' fun s'' => TopsD P z ops (A ++ B) Hr s'' K :=
        (h.free hf).mono fun s' hs => TopsD.front A Hr s' hs.1 hA' hs.2
      exact h1.swap hap hmk happ hf
    · have hx : fx = true := hx
      subst hx
      obtain ⟨g1, g2, g3⟩ := apart_specs hap
      obtain ⟨hok, hg⟩ : (userCall x = true → ∀ q ∈ A ++ (y, false) :: B, allocOK P q.1) ∧ Tguard ops x s (Top P x s fun s' => ∃ Hr2 : Hp, (∀ l c, Hr2 l = some c → s'.H l = some c) ∧ (z = true → ∀ l c, Hr l = some c → Hr2 l = some c) ∧ TopsD P z ops (A ++ (y, false) :: B) Hr2 s' K) (∃ Hr2 : Hp, (∀ l c, Hr2 l = some c → s.H l = some c) ∧ (z = true → ∀ l c, Hr l = some c → Hr2 l = some c) ∧ TopsD P z ops (A ++ (y, false) :: B) Hr2 (s.put x.dst (.tup [])) K) := h
      obtain ⟨t, hyo, hyg⟩ : ∃ t, y.op = .alloc t ∧ y.guard = none := by
        unfold isAlloc at hya
        split at hya
        · rename_i t e1 e2; exact ⟨t, e1, e2⟩
        · cases hya
      obtain ⟨zz, hz, hd⟩ := hok hxc (y, false) (by simp) t hyo
      show Tguard ops y s (TopQ P y Hr s fun s' => TopsD P z ops ((x, true) :: (A ++ B)) Hr s' K) _
      unfold Tguard
      simp only [hyg]
      unfold TopQ
      simp only [hyo]
      refine ⟨zz, hz, hd, fun l hl => ⟨fun hc q hq => hok hc q ?_, ?_⟩⟩
      · simp only [List.mem_append, List.mem_cons] at hq ⊢
        rcases hq with hq | hq
        · exact .inl hq
        · exact .inr (.inr hq)
      -- what follows behind the piece of memory
      have next : ∀ (H' Hr' : Hp) (r : PV), H' l = none → FreeInf H' → TopsD P z ops (A ++ (y, false) :: B) Hr' (({ s with H := H' } : St).put x.dst r) K →
          TopsD P z ops (A ++ B) Hr' (({ s with H := upd H' l (some (.row true zz.cells.length [zz])) }.put y.dst (.ref l zz.cells.length 0 0)).put x.dst r) K := by
        intro H' Hr' r h0 hF hk
        have h1 : Step P ops Hr' y (({ s with H := H' } : St).put x.dst r) fun s'' => TopsD P z ops (A ++ B) Hr' s'' K := TopsD.front A Hr' _ (by rw [put_H']; exact hF) hA' hk
        have h2 : TopQ P y Hr' (({ s with H := H' } : St).put x.dst r) fun s'' => TopsD P z ops (A ++ B) Hr' s'' K := by
          unfold Step Tguard at h1
          simp only [hyg] at h1
          exact h1
        unfold TopQ at h2
        simp only [hyo] at h2
        obtain ⟨z', hz', _, hk'⟩ := h2
        rw [hz] at hz'
        obtain rfl := Option.some.inj hz'
        have h3 := hk' l (by rw [put_H']; exact h0)
        rw [put_H', ← put_H (s := { s with H := H' }) (d := x.dst) (v := r), put_comm (fun t ht => g2 t ht)] at h3
        exact h3
      refine (guard_put (fun t ht => g3 t ht)).2 (guard_H.2 (guard_mono hg (fun ht => ?_) (fun hn => ?_)))
      · refine top_mono (Top.beside hxc (fun v hv => evo_put (fun t ht => (looks_of (g3 t ht)).1 v hv)) hl (Top.freeC hxc hf ht)) ?_
        rintro s2 ⟨H', r, ⟨hF, Hr', hsub, hzz, hk⟩, h0, rfl⟩
        rw [put_H'] at hF hsub
        refine ⟨Hr', fun l' c' e => ?_, hzz, next H' Hr' r h0 hF hk⟩
        rw [put_H', put_H']
        exact sub_upd h0 _ _ (hsub _ _ e)
      · obtain ⟨Hr', hsub, hzz, hk⟩ := hn
        refine ⟨Hr', fun l' c' e => ?_, hzz, next s.H Hr' (.tup []) hl hf hk⟩
        rw [put_H']
        exact sub_upd hl _ _ (hsub _ _ e)
theorem opEff_congr {full : Bool} {s s' : St} {op : Op} {K : PV → Hp → Prop} (he : ∀ x ∈ op.operands, evo s' x = evo s x) (hH : s'.H = s.H) (h : opEff P full s op K) : opEff P full s' op K := by
  unfold opEff at h ⊢
  split at h
  · rw [hH]; exact h
  · rw [hH, he _ (by simp [Op.operands])]; exact h
  · rename_i t a x
    rw [hH, he a (by simp [Op.operands]), he x (by simp [Op.operands])]; exact h
  · rename_i t n c
    rw [hH, he n (by simp [Op.operands]), he c (by simp [Op.operands])]; exact h
  · obtain ⟨t0, t1, x, y, e, h1, h2, h⟩ := h
    subst h1; subst h2
    refine ⟨t0, t1, x, y, e, rfl, rfl, ?_⟩
    rw [hH, he x (by simp [Op.operands, Call.operands]), he y (by simp [Op.operands, Call.operands])]; exact h
  · obtain ⟨hf, t0, t1, x, y, e, h1, h2, h⟩ := h
    subst h1; subst h2
    refine ⟨hf, t0, t1, x, y, e, rfl, rfl, ?_⟩
    rw [hH, he x (by simp [Op.operands, Call.operands]), he y (by simp [Op.operands, Call.operands])]; exact h
  · exact h.elim
theorem convS_congr {s s' : St} {op : Op} (he : ∀ x ∈ op.operands, evo s' x = evo s x) (hH : s'.H = s.H) : convS P s' op = convS P s op := by
  cases op <;> try rfl
  case convert a b x => simp only [convS, he x (by simp [Op.operands]), hH]
theorem Top.put {y : Oper} {s : St} {d : Option Tmp} {v : PV} {K : St → Prop} (he : ∀ x ∈ y.op.operands, evo (s.put d v) x = evo s x) (hd : ∀ t, d = some t → y.dst ≠ some t) (h : Top P y (s.put d v) K) : Top P y s fun s' => (∃ H' r, s' = ({ s with H := H' } : St).put y.dst r) ∧ K (s'.put d v) := by
  have pc : ∀ (H' : Hp) (r : PV), ({ s.put d v with H := H' } : St).put y.dst r = (({ s with H := H' } : St).put y.dst r).put d v := fun H' r => by rw [← put_H, put_comm hd]
  have hs : ∀ x ∈ y.op.operands, evo s x = evo (s.put d v) x := fun x hx => (he x hx).symm
  unfold Top at h ⊢
  split at h
  · rename_i g args ts ho
    rw [ho] at hs
    have hm : args.toList.map (evo s) = args.toList.map (evo (s.put d v)) := List.map_congr_left fun x hx => hs x (by simp [Op.operands, Call.operands]; exact .inr (by simpa using hx))
    rw [hs g (by simp [Op.operands, Call.operands]), hm]
    split
    · rename_i f caps hg
      rw [hg] at h
      simp only [put_H'] at h
      exact CallOK.mono h fun r H' hk => ⟨⟨H', r, rfl⟩, by rw [← pc]; exact hk⟩
    · rename_i f fs hg
      rw [hg] at h
      simp only [put_H'] at h
      exact CallOK.mono h fun r H' hk => ⟨⟨H', r, rfl⟩, by rw [← pc]; exact hk⟩
    · rename_i hn hn'
      split at h
      · rename_i f caps hg; exact absurd hg (hn _ _)
      · rename_i f caps hg; exact absurd hg (hn' _ _)
      · exact h.elim
  · rename_i hno
    split
    · rename_i hE
      rw [if_pos hE] at h
      exact opEff_mono (opEff_congr hs put_H'.symm h) fun u H' hk => ⟨⟨H', u, rfl⟩, by rw [← pc]; exact hk⟩
    · rename_i hE
      rw [if_neg hE] at h
      obtain ⟨u, hu | hu, hk⟩ := h
      rotate_right
      · have hu' : convS P s y.op = some u := by rw [← hu]; exact (convS_congr (fun x hx => (hs x hx).symm) put_H').symm
        refine ⟨u, .inr hu', ⟨s.H, u, rfl⟩, ?_⟩
        have := pc s.H u
        have e1 : ({ s.put d v with H := s.H } : St) = s.put d v := by rw [← put_H]
        rw [e1] at this
        rw [← this]; exact hk
      have hu' := opVal_congr (s := s.put d v) (s' := s) (Hr := s.H) (by simpa using hE) (fun g args ts e => hno g args ts e) hs (by
        have : ({ s.put d v with H := s.H } : St) = s.put d v := by rw [← put_H]
        rw [this]; exact hu)
      refine ⟨u, .inl hu', ⟨s.H, u, rfl⟩, ?_⟩
      have := pc s.H u
      have e1 : ({ s.put d v with H := s.H } : St) = s.put d v := by rw [← put_H]
      rw [e1] at this
      rw [← this]; exact hk
theorem opVal_silent {o : Oper} {s s' : St} (hs : silentB o = true) (he : s'.env = s.env) : opVal P s' o.op = opVal P s o.op := by
  obtain ⟨e, H⟩ := s
  obtain ⟨e', H'⟩ := s'
  have he : e' = e := he
  subst he
  have hev : evo (⟨e', H'⟩ : St) = evo ⟨e', H⟩ := funext fun x => by cases x <;> rfl
  have hbd : boundOf (⟨e', H'⟩ : St) = boundOf ⟨e', H⟩ := funext fun d => funext fun o => by
    cases o with
    | none => rfl
    | some x => simp only [boundOf, hev]
  unfold silentB at hs
  obtain ⟨dst, op, ty, pos, after, guard⟩ := o
  cases op <;> first | rfl | (simp [isEff] at hs; done) | (simp only [opVal, hev]; done) | (simp only [opVal, pvSlice, hev, hbd]; done) | skip
  case makeFunc fn fst caps => cases fn <;> simp only [opVal, hev]
  case call c =>
    obtain ⟨callee, args, ts⟩ := c
    cases callee with
    | builtin b => cases b <;> first | rfl | (simp only [opVal, hev]; done)
    | value g => rfl
    | _ => rfl
theorem Step.silent {ops : Array Oper} {Hr Hr' : Hp} {x : Oper} {s : St} {K : St → Prop} (hs : silentB x = true) (h : Step P ops Hr x s K) : Step P ops Hr' x s K := by
  refine guard_mono h (fun h => ?_) (fun h => h)
  unfold TopQ at h ⊢
  have hs' := hs
  unfold silentB at hs'
  split at h
  · rename_i g args ts ho; rw [ho] at hs'; cases hs'
  · rename_i t ho; rw [ho] at hs'; cases hs'
  · rename_i t y ho; rw [ho] at hs'; cases hs'
  · rename_i args ts ho; rw [ho] at hs'; cases hs'
  · obtain ⟨hE, v, hv, hk⟩ := h
    refine ⟨hE, v, ?_, hk⟩
    rw [← hv]
    exact opVal_silent hs rfl
theorem Step.moreL {ops : Array Oper} {Hr Hr' : Hp} {x : Oper} {s : St} {K : St → Prop} (hl : isLd x = true) (hsub : ∀ l c, Hr l = some c → Hr' l = some c) (h : Step P ops Hr x s K) : Step P ops Hr' x s K := by
  refine guard_mono h (fun h => ?_) (fun h => h)
  obtain ⟨dst, op, ty, pos, af, g⟩ := x
  unfold isLd at hl
  simp only at hl
  split at hl
  · unfold TopQ at h ⊢
    obtain ⟨hE, v, hv, hk⟩ := h
    exact ⟨hE, v, opVal_mono (s := { s with H := Hr' }) hsub hv, hk⟩
  · cases hl
theorem TopsD.frontM {ops : Array Oper} {y : Oper} {K : St → Prop} {B : List (Oper × Bool)} : ∀ (A : List (Oper × Bool)) (Hr : Hp) (s : St),
    (∀ q ∈ A, q.2 = false ∧ q.1.apart ops y = true ∧ (silentB q.1 = true ∨ (isLd q.1 = true ∧ z = true))) → TopsD P z ops (A ++ (y, true) :: B) Hr s K →
    Tguard ops y s (Top P y s fun s' => ∃ Hr2 : Hp, (∀ l c, Hr2 l = some c → s'.H l = some c) ∧ (z = true → ∀ l c, Hr l = some c → Hr2 l = some c) ∧ TopsD P z ops (A ++ B) Hr2 s' K) (∃ Hr2 : Hp, (∀ l c, Hr2 l = some c → s.H l = some c) ∧ (z = true → ∀ l c, Hr l = some c → Hr2 l = some c) ∧ TopsD P z ops (A ++ B) Hr2 (s.put y.dst (.tup [])) K)
  | [], Hr, s, _, h => h.2
  | (x, fx) :: A, Hr, s, hA, h => by
    obtain ⟨hx, hap, hsl⟩ := hA _ List.mem_cons_self
    have hx : fx = false := hx
    subst hx
    obtain ⟨h1, h2, h3⟩ := apart_specs hap
    have h : Step P ops Hr x s fun s' => TopsD P z ops (A ++ (y, true) :: B) Hr s' K := h
    have xy : ∀ (s : St) v z, z ∈ x.op.operands → evo (s.put y.dst v) z = evo s z := fun s v z hz => evo_put (fun t ht => (looks_of (h3 t ht)).1 z hz)
    have hmk : makes x = false ∧ userCall x = false := by
      rcases hsl with hsl | ⟨hsl, _⟩
      · unfold silentB at hsl
        constructor
        · unfold makes
          split <;> rename_i e <;> simp_all [isEff]
        · unfold userCall
          split <;> rename_i e <;> simp_all [isEff]
      · unfold isLd at hsl
        split at hsl
        · rename_i e; constructor
          · unfold makes; rw [e]
          · unfold userCall; rw [e]
        · cases hsl
    rcases step_cases h with ⟨v, _, hv, hK⟩ | ⟨mk, c, m, hm, _⟩
    · have hA' : ∀ q ∈ A, q.2 = false ∧ q.1.apart ops y = true ∧ (silentB q.1 = true ∨ (isLd q.1 = true ∧ z = true)) := fun q hq => hA q (List.mem_cons_of_mem _ hq)
      have ih := TopsD.frontM A Hr (s.put x.dst v) hA' hK
      have hg := (guard_put (fun t ht => h1 t ht)).1 ih
      -- the step of x, after y
      have after : ∀ (Hr' : Hp) (s' : St), (z = true → ∀ l c, Hr l = some c → Hr' l = some c) → (∀ z ∈ x.op.operands, evo s' z = evo s z) → (∀ Y N, Tguard ops x s' Y N ↔ Tguard ops x s Y N) → TopsD P z ops (A ++ B) Hr' (s'.put x.dst v) K → TopsD P z ops ((x, false) :: (A ++ B)) Hr' s' K := fun Hr' s' hzz ho hgd hk =>
        hsl.elim (fun hsl => Step.silent hsl (hv s' ho hgd (fun s'' => TopsD P z ops (A ++ B) Hr' s'' K) hk))
          (fun ⟨k1, k2⟩ => Step.moreL k1 (hzz k2) (hv s' ho hgd (fun s'' => TopsD P z ops (A ++ B) Hr' s'' K) hk))
      have gx : ∀ (s : St) v Y N, Tguard ops x (s.put y.dst v) Y N ↔ Tguard ops x s Y N := fun s v Y N => guard_put (fun t ht => h3 t ht)
      refine guard_mono hg (fun ht => ?_) (fun hn => ?_)
      · refine top_mono (Top.put (fun z hz => evo_put (fun t ht => (looks_of (h1 t ht)).1 z hz)) (fun t ht => h2 t ht) ht) ?_
        rintro s' ⟨⟨H', r, rfl⟩, Hr', hsub, hzz, hk⟩
        rw [put_H'] at hsub
        exact ⟨Hr', hsub, hzz, after Hr' _ hzz (fun z hz => by rw [xy _ _ z hz, evo_H]) (fun Y N => (gx _ _ Y N).trans guard_H) hk⟩
      · obtain ⟨Hr', hsub, hzz, hn⟩ := hn
        rw [put_H'] at hsub
        have pc : (s.put x.dst v).put y.dst (.tup []) = (s.put y.dst (.tup [])).put x.dst v := put_comm (fun t ht => h2 t ht)
        rw [pc] at hn
        exact ⟨Hr', hsub, hzz, after Hr' (s.put y.dst (.tup [])) hzz (fun z hz => xy s _ z hz) (fun Y N => gx s _ Y N) hn⟩
    · rcases hm with hm | hm
      · rw [hmk.1] at hm; cases hm
      · rw [hmk.2] at hm; cases hm
theorem put_off {s : St} {H : Hp} {d : Option Tmp} {v : PV} {t : Nat} (h : d ≠ some t) : (({ s with H := H } : St).put d v).env t = s.env t := by
  cases d with
  | none => rfl
  | some d =>
    have : t ≠ d := fun e => h (by rw [e])
    simp [St.put, upd_apply, this]
theorem put_off' {s : St} {d : Option Tmp} {v : PV} {t : Nat} (h : d ≠ some t) : (s.put d v).env t = s.env t := put_off (s := s) (H := s.H) h
def Fra (d : Option Tmp) (s s' : St) : Prop := ∀ t, d ≠ some t → s'.env t = s.env t
theorem top_frame {o : Oper} {s : St} {K : St → Prop} (h : Top P o s K) : Top P o s (fun s' => K s' ∧ Fra o.dst s s') := by
  unfold Top at h ⊢
  split at h
  · split at h
    · exact h.mono fun r H h => ⟨h, fun t ht => put_off ht⟩
    · exact h.mono fun r H h => ⟨h, fun t ht => put_off ht⟩
    · exact h
  · split at h
    · rename_i hE
      rw [if_pos hE]
      exact opEff_mono h fun v H h => ⟨h, fun t ht => put_off ht⟩
    · rename_i hE
      rw [if_neg hE]
      obtain ⟨v, hv, h⟩ := h
      exact ⟨v, hv, h, fun t ht => put_off' ht⟩
def remOf (n : Nat) (listed : Array Bool) : List Nat := (List.range n).filter fun i => !listed.getD i true
theorem mem_rem {n : Nat} {listed : Array Bool} {i : Nat} : i ∈ remOf n listed ↔ i < n ∧ listed.getD i true = false := by
  simp [remOf]
theorem filter_split {n i : Nat} {p q : Nat → Bool} (hi : i < n) (hp : p i = true) (hq : ∀ j, q j = (p j && j != i)) :
    (List.range n).filter p = (List.range i).filter p ++ i :: (List.range' (i + 1) (n - (i + 1))).filter p ∧
    (List.range n).filter q = (List.range i).filter p ++ (List.range' (i + 1) (n - (i + 1))).filter p := by
  have hsplit : List.range n = List.range i ++ i :: List.range' (i + 1) (n - (i + 1)) := by
    rw [List.range_eq_range', List.range_eq_range']
    have : n = i + (1 + (n - (i + 1))) := by omega
    conv => lhs; rw [this]
    rw [← List.range'_append_1, Nat.zero_add, Nat.add_comm 1, List.range'_succ]
  have e1 : (List.range i).filter q = (List.range i).filter p := List.filter_congr fun j hj => by
    rw [hq]
    have : j ≠ i := by simp at hj; omega
    simp [this]
  have e2 : (List.range' (i + 1) (n - (i + 1))).filter q = (List.range' (i + 1) (n - (i + 1))).filter p := List.filter_congr fun j hj => by
    rw [hq]
    have : j ≠ i := by
      rw [List.mem_range'_1] at hj; omega
    simp [this]
  refine ⟨?_, ?_⟩
  · rw [hsplit, List.filter_append, List.filter_cons, if_pos hp]
  · rw [hsplit, List.filter_append, List.filter_cons, if_neg (by rw [hq]; simp), e1, e2]
def pairAt (ops : Array Oper) (fl : List Bool) (i : Nat) : Oper × Bool := (ops.getD i default, fl.getD i false)
theorem marked_eq (ops : Array Oper) (fl : List Bool) : marked ops.toList fl = (List.range ops.size).map (pairAt ops fl) := by
  have key : ∀ (l : List Oper) (fl : List Bool), marked l fl = (List.range l.length).map fun i => (l.getD i default, fl.getD i false) := by
    intro l
    induction l with
    | nil => intro fl; rfl
    | cons o l ih =>
      intro fl
      rw [marked, ih, List.length_cons, List.range_succ_eq_map, List.map_cons, List.map_map]
      congr 1
      · cases fl <;> rfl
      · apply List.map_congr_left
        intro i _
        cases fl <;> simp
  rw [key]
  simp only [Array.length_toList, pairAt]
  apply List.map_congr_left
  intro i hi
  unfold pairAt
  simp [Array.getD_eq_getD_getElem?]
theorem fold_bit {f : Edge → Bool} {g : Edge → Nat} (i : Nat) : ∀ (l : List Edge) (m : Nat), (l.foldl (fun m e => if f e = true then (m ||| 1 <<< e.on) ||| g e else m) m).testBit i = true →
    m.testBit i = true ∨ ∃ e ∈ l, f e = true ∧ (i = e.on ∨ (g e).testBit i = true)
  | [], m, h => .inl h
  | e :: l, m, h => by
    rw [List.foldl_cons] at h
    rcases fold_bit i l _ h with h | ⟨e', he, hf, hg⟩
    · by_cases hf : f e = true
      · rw [if_pos hf, Nat.testBit_or, Nat.testBit_or, Bool.or_eq_true, Bool.or_eq_true] at h
        rcases h with (h | h) | h
        · exact .inl h
        · refine .inr ⟨e, List.mem_cons_self, hf, .inl ?_⟩
          rw [Nat.one_shiftLeft, Nat.testBit_two_pow] at h
          simp only [decide_eq_true_eq] at h
          exact h.symm
        · exact .inr ⟨e, List.mem_cons_self, hf, .inr h⟩
      · rw [if_neg hf] at h; exact .inl h
    · exact .inr ⟨e', List.mem_cons_of_mem _ he, hf, hg⟩
theorem closure_spec (ops : Array Oper) (j i : Nat) (h : ((closure ops).getD j 0).testBit i = true) : Tr ops i j := by
  have key : ∀ (l : List Oper) (pre : List Oper) (acc : List Nat), ops.toList = pre ++ l → acc.length = pre.length → (∀ j i, (acc.getD j 0).testBit i = true → Tr ops i j) →
      ∀ j i, ((l.foldl closeStep acc).getD j 0).testBit i = true → Tr ops i j := by
    intro l
    induction l with
    | nil => intro pre acc _ _ hacc; exact hacc
    | cons o l ih =>
      intro pre acc hsp hlen hacc
      rw [List.foldl_cons]
      refine ih (pre ++ [o]) _ (by rw [hsp]; simp) (by unfold closeStep; simp [hlen]) ?_
      intro j i hb
      unfold closeStep at hb
      rw [List.getD_eq_getElem?_getD] at hb
      rcases Nat.lt_trichotomy j acc.length with hlt | heq | hgt
      · rw [List.getElem?_append_left hlt] at hb
        exact hacc j i (by rw [List.getD_eq_getElem?_getD]; exact hb)
      · rw [heq, List.getElem?_append_right (Nat.le_refl _), Nat.sub_self] at hb
        simp only [List.getElem?_cons_zero, Option.getD_some] at hb
        have hoj : ops[j]? = some o := by
          rw [← Array.getElem?_toList, hsp, heq, hlen, List.getElem?_append_right (Nat.le_refl _), Nat.sub_self]; rfl
        rcases fold_bit i _ _ hb with h0 | ⟨e, he, hf, hg⟩
        · rw [Nat.zero_testBit] at h0; cases h0
        · have hd : depOn ops e.on j = true := by
            unfold depOn
            rw [hoj]
            simp only [Option.map_some, Option.getD_some]
            rw [← Array.any_toList, List.any_eq_true]
            exact ⟨e, he, by simp [hf]⟩
          rcases hg with rfl | hg
          · exact .one hd
          · exact .more (hacc _ _ hg) hd
      · rw [List.getElem?_append_right (by omega), List.getElem?_eq_none (by simp; omega)] at hb
        simp at hb
  exact key ops.toList [] [] rfl rfl (fun j i h => by simp at h) j i h
theorem Tr.listed {ops : Array Oper} {listed : Array Bool} (hcl : ∀ j o, ops[j]? = some o → listed.getD j false = true → ∀ e ∈ o.after.toList, Region.binds .any e = true → listed.getD e.on false = true) {i j : Nat} (h : Tr ops i j) :
    (∀ o, ops[j]? = some o → ∀ e ∈ o.after.toList, Region.binds .any e = true → listed.getD e.on false = true) → listed.getD i false = true := by
  have one : ∀ k j, depOn ops k j = true → (∀ o, ops[j]? = some o → ∀ e ∈ o.after.toList, Region.binds .any e = true → listed.getD e.on false = true) → listed.getD k false = true := by
    intro k j hd hj
    unfold depOn at hd
    cases ho : ops[j]? with
    | none => rw [ho] at hd; cases hd
    | some o =>
      rw [ho] at hd
      simp only [Option.map_some, Option.getD_some, ← Array.any_toList, List.any_eq_true, Bool.and_eq_true, beq_iff_eq] at hd
      obtain ⟨e, he, hb, rfl⟩ := hd
      exact hj o ho e he hb
  induction h with
  | one hd => exact one _ _ hd
  | more h hd ih => exact fun hj => ih (fun o ho => hcl _ o ho (one _ _ hd hj))
theorem drawOK_at {z : Bool} {ops : Array Oper} {fl : List Bool} (h : drawOK z ops fl = true) {j : Nat} {o : Oper} (ho : ops[j]? = some o) :
    (∀ e ∈ o.after.toList, Region.binds .any e = true → e.on < j) ∧
    ∀ i x, i < j → ops[i]? = some x → Tr ops i j ∨ (x.apart ops o = true ∧ ((fl.getD i false = true ∧ fl.getD j false = false ∧ userCall x = true ∧ isAlloc o = true) ∨ (fl.getD i false = false ∧ ((fl.getD j false = true ∧ (silentB x = true ∨ (z = true ∧ isLd x = true))) ∨ (fl.getD j false = false ∧ ((makes x = false ∧ userCall x = false) ∨ userCall o = false) ∧ (isApp x = false ∨ isApp o = false)))))) := by
  have hj : j < ops.size := (Array.getElem?_eq_some_iff.1 ho).1
  unfold drawOK at h
  have h := List.all_eq_true.1 h j (by simpa using hj)
  simp only [ho, Option.map_some, Option.getD_some, Bool.and_eq_true] at h
  obtain ⟨h1, h2⟩ := h
  refine ⟨fun e he hb => ?_, fun i x hi hx => ?_⟩
  · rw [← Array.all_toList] at h1
    have := List.all_eq_true.1 h1 e he
    simp only [hb, Bool.not_true, Bool.false_or, decide_eq_true_eq] at this
    exact this
  · have := List.all_eq_true.1 h2 i (by simpa using hi)
    simp only [hx, Bool.or_eq_true, Bool.and_eq_true] at this
    rcases this with h | ⟨h1, h4⟩
    · exact .inl (closure_spec ops j i h)
    · refine .inr ⟨h1, ?_⟩
      cases h2 : fl.getD i false with
      | true =>
        rw [h2] at h4
        simp only [if_true, Bool.and_eq_true, Bool.not_eq_true'] at h4
        exact .inl ⟨rfl, h4.1.1, h4.1.2, h4.2⟩
      | false =>
      rw [h2] at h4
      simp only [Bool.false_eq_true, if_false] at h4
      refine .inr ⟨rfl, ?_⟩
      cases h3 : fl.getD j false with
      | true =>
        rw [h3] at h4
        simp only [if_true, Bool.or_eq_true, Bool.and_eq_true] at h4
        exact .inl ⟨rfl, h4⟩
      | false =>
      rw [h3] at h4
      simp only [Bool.false_eq_true, if_false, Bool.and_eq_true] at h4
      obtain ⟨h4, h5⟩ := h4
      refine .inr ⟨rfl, ?_, ?_⟩
      · cases e' : userCall o with
        | false => exact .inr rfl
        | true =>
          rw [e'] at h4
          simp at h4
          exact .inl h4
      · cases e' : isApp o with
        | false => exact .inr rfl
        | true => rw [e'] at h5; simp at h5; exact .inl h5
theorem ready_rem {ops : Array Oper} {listed : Array Bool} (hl : listed.size = ops.size) {i : Nat} (h : i ∈ Region.ready .any ops listed) :
    i ∈ remOf ops.size listed ∧ ∃ o, ops[i]? = some o ∧ ∀ e ∈ o.after.toList, Region.binds .any e = true → listed.getD e.on false = true := by
  unfold Region.ready at h
  simp only [List.mem_filter, List.mem_range, Bool.and_eq_true, Bool.not_eq_true'] at h
  obtain ⟨hi, h1, h2⟩ := h
  refine ⟨mem_rem.2 ⟨hi, h1⟩, ops[i], Array.getElem?_eq_getElem hi, fun e he hb => ?_⟩
  rw [Array.getElem?_eq_getElem hi] at h2
  simp only [Option.map_some, Option.getD_some] at h2
  rw [← Array.all_toList] at h2
  have := List.all_eq_true.1 h2 e he
  simpa [hb] using this
theorem topsD_any {γ : GP} {n : Nat} {z : Bool} {w0 : World} {O0 : Nat → Prop} {ops : Array Oper} {fl : List Bool} {Q : Exit → Act → World → Prop} {K : St → Prop} (hok : drawOK z ops fl = true)
    (hd : ∀ o ∈ ops.toList, ∀ t, o.dst = some t → t < n) (hN : ∀ s a w, SR P γ n w0 O0 X0 s a w → K s → Q .normal a w) :
    ∀ (fuel : Nat) (listed : Array Bool) (Hr : Hp) (s : St) (a : Act) (w : World), listed.size = ops.size → (remOf ops.size listed).length = fuel → SR P γ n w0 O0 X0 s a w →
      (∀ l c, Hr l = some c → s.H l = some c) → (∀ j o, ops[j]? = some o → listed.getD j false = true → ∀ e ∈ o.after.toList, Region.binds .any e = true → listed.getD e.on false = true) → TopsD P z ops ((remOf ops.size listed).map (pairAt ops fl)) Hr s K → wpAny P .any ops Q fuel listed a w := by
  intro fuel
  induction fuel with
  | zero =>
    intro listed Hr s a w hl hlen hs hsub hcl hk
    have hnil : remOf ops.size listed = [] := List.eq_nil_of_length_eq_zero hlen
    rw [hnil] at hk
    refine ⟨List.eq_nil_iff_forall_not_mem.2 fun i hi => ?_, hN s a w hs hk⟩
    have := (ready_rem hl hi).1
    rw [hnil] at this
    cases this
  | succ fuel ih =>
    intro listed Hr s a w hl hlen hs hsub hcl hk
    have step : ∀ i ∈ Region.ready .any ops listed, wpOp P ops Q i (wpAny P .any ops Q fuel (listed.setIfInBounds i true)) a w := by
      intro i hi
      obtain ⟨hrem, o, ho, hdep⟩ := ready_rem hl hi
      obtain ⟨hin, hun⟩ := mem_rem.1 hrem
      obtain ⟨_, hpairs⟩ := drawOK_at hok ho
      have hfs := filter_split (n := ops.size) (i := i) (p := fun j => !listed.getD j true) (q := fun j => !(listed.setIfInBounds i true).getD j true) hin (by simp [hun]) (fun j => by
        simp only [Array.getD_eq_getD_getElem?, Array.getElem?_setIfInBounds]
        by_cases e : i = j
        · subst e
          simp [show i < listed.size by omega]
        · have e' : j ≠ i := Ne.symm e
          simp [e, e'])
      have hrest : remOf ops.size (listed.setIfInBounds i true) = (List.range i).filter (fun j => !listed.getD j true) ++ (List.range' (i + 1) (ops.size - (i + 1))).filter (fun j => !listed.getD j true) := hfs.2
      have hall : remOf ops.size listed = (List.range i).filter (fun j => !listed.getD j true) ++ i :: (List.range' (i + 1) (ops.size - (i + 1))).filter (fun j => !listed.getD j true) := hfs.1
      rw [hall, List.map_append, List.map_cons] at hk
      have hlen' : (remOf ops.size (listed.setIfInBounds i true)).length = fuel := by
        rw [hrest, List.length_append]
        rw [hall, List.length_append, List.length_cons] at hlen
        omega
      have hpi : pairAt ops fl i = (o, fl.getD i false) := by
        unfold pairAt
        rw [Array.getD_eq_getD_getElem?, ho]
        rfl
      have hnd : ∀ j ∈ (List.range i).filter (fun j => !listed.getD j true), ¬ Tr ops j i := by
        intro j hj htr
        simp only [List.mem_filter, List.mem_range, Bool.not_eq_true'] at hj
        have h1 := htr.listed hcl (fun o' ho' e he hb => hdep e (by rw [ho] at ho'; cases ho'; exact he) hb)
        have h2 := hj.2
        rw [Array.getD_eq_getD_getElem?] at h1 h2
        cases hx : listed[j]? with
        | none => rw [hx] at h1; cases h1
        | some b => rw [hx] at h1 h2; simp at h1 h2; rw [h1] at h2; cases h2
      have hcl' : ∀ j o, ops[j]? = some o → (listed.setIfInBounds i true).getD j false = true → ∀ e ∈ o.after.toList, Region.binds .any e = true → (listed.setIfInBounds i true).getD e.on false = true := by
        intro j o' ho' hj e he hb
        have up : ∀ k, listed.getD k false = true → (listed.setIfInBounds i true).getD k false = true := by
          intro k hk
          simp only [Array.getD_eq_getD_getElem?, Array.getElem?_setIfInBounds] at hk ⊢
          split
          · rename_i e; subst e
            split
            · rfl
            · rename_i hn; rw [Array.getElem?_eq_none (by omega)] at hk; exact hk
          · exact hk
        by_cases e' : j = i
        · subst e'
          rw [ho] at ho'; cases ho'
          exact up _ (hdep e he hb)
        · refine up _ (hcl j o' ho' ?_ e he hb)
          simp only [Array.getD_eq_getD_getElem?, Array.getElem?_setIfInBounds] at hj ⊢
          rw [if_neg (fun h => e' h.symm)] at hj
          exact hj
      have hfree : FreeInf s.H := ⟨w.heap.size, fun b hb => by
        cases e : s.H (.real b) with
        | none => rfl
        | some c =>
          obtain ⟨m, sz, xs⟩ := c
          obtain ⟨_, _, cs, t, hbk, _⟩ := hs.heap _ _ _ _ e
          have := lt_of_block hbk
          omega⟩
      have hdo : ∀ t, o.dst = some t → t < n := hd o (by rw [← Array.getElem?_toList] at ho; exact mem_of_get ho)
      have hls : (listed.setIfInBounds i true).size = ops.size := by simp [hl]
      have hli : (listed.setIfInBounds i true).getD i false = true := by
        simp only [Array.getD_eq_getD_getElem?, Array.getElem?_setIfInBounds]
        simp only [if_true]
        rw [if_pos (by omega)]; rfl
      -- what follows
      have fin : Tguard ops o s (Top P o s fun s' => ∃ Hr2 : Hp, (∀ l c, Hr2 l = some c → s'.H l = some c) ∧ TopsD P z ops ((remOf ops.size (listed.setIfInBounds i true)).map (pairAt ops fl)) Hr2 s' K)
          (∃ Hr2 : Hp, (∀ l c, Hr2 l = some c → s.H l = some c) ∧ TopsD P z ops ((remOf ops.size (listed.setIfInBounds i true)).map (pairAt ops fl)) Hr2 (s.put o.dst (.tup [])) K) →
          wpOp P ops Q i (wpAny P .any ops Q fuel (listed.setIfInBounds i true)) a w := by
        intro hg
        unfold wpOp
        rw [ho]
        simp only
        rcases guard_wp hs hg with ⟨hw, hY⟩ | ⟨hw, hN'⟩
        · rw [if_pos hw]
          exact .inl (top_wp hs hdo hY (fun s' a' w' hs' ⟨Hr2, hk1, hk3⟩ => ih _ Hr2 s' a' w' hls hlen' hs' hk1 hcl' hk3))
        · rw [if_neg (by rw [hw]; simp)]
          obtain ⟨Hr2, hk1, hk3⟩ := hN'
          exact ih _ Hr2 _ _ w hls hlen' (skip_SR hs hdo) (by rw [put_H']; exact hk1) hcl' hk3
      cases hfi : fl.getD i false with
      | true =>
        -- what is left before it looks at no memory
        rw [hpi, hfi] at hk
        have hfront := TopsD.frontM (P := P) ((List.filter (fun j => !listed.getD j true) (List.range i)).map (pairAt ops fl)) Hr s (fun q hq => by
          obtain ⟨j, hj, rfl⟩ := List.mem_map.1 hq
          have hji : j < i := by simp at hj; exact hj.1
          have hoj : ops[j]? = some (ops[j]'(by omega)) := Array.getElem?_eq_getElem (by omega)
          have hpj : pairAt ops fl j = (ops[j]'(by omega), fl.getD j false) := by
            unfold pairAt
            rw [Array.getD_eq_getD_getElem?, hoj]
            rfl
          rw [hpj]
          rcases hpairs j _ hji hoj with h | ⟨h1, ⟨_, h3, _⟩ | ⟨h2, ⟨_, h3⟩ | ⟨h3, _⟩⟩⟩
          · exact absurd h (hnd j hj)
          · rw [hfi] at h3; cases h3
          · exact ⟨h2, h1, h3.imp id fun ⟨hz, hf⟩ => ⟨hf, hz⟩⟩
          · rw [hfi] at h3; cases h3) hk
        refine fin ?_
        rw [hrest, List.map_append]
        exact guard_mono hfront (fun h => top_mono h (fun s' ⟨Hr2, h1, _, h2⟩ => ⟨Hr2, h1, h2⟩)) (fun ⟨Hr2, h1, _, h2⟩ => ⟨Hr2, h1, h2⟩)
      | false =>
        rw [hpi, hfi] at hk
        have hfront := TopsD.front (P := P) ((List.filter (fun j => !listed.getD j true) (List.range i)).map (pairAt ops fl)) Hr s hfree (fun q hq => by
          obtain ⟨j, hj, rfl⟩ := List.mem_map.1 hq
          have hji : j < i := by simp at hj; exact hj.1
          have hoj : ops[j]? = some (ops[j]'(by omega)) := Array.getElem?_eq_getElem (by omega)
          have hpj : pairAt ops fl j = (ops[j]'(by omega), fl.getD j false) := by
            unfold pairAt
            rw [Array.getD_eq_getD_getElem?, hoj]
            rfl
          rw [hpj]
          rcases hpairs j _ hji hoj with h | ⟨h1, ⟨h2, _, h3, h4⟩ | ⟨h2, ⟨h3, _⟩ | ⟨_, h4⟩⟩⟩
          · exact absurd h (hnd j hj)
          · exact ⟨h1, .inr ⟨h2, h3, h4⟩⟩
          · rw [hfi] at h3; cases h3
          · exact ⟨h1, .inl ⟨h2, h4⟩⟩) hk
        refine fin ?_
        rw [hrest, List.map_append]
        have hg : Tguard ops o s (TopQ P o Hr s fun s' => TopsD P z ops (List.map (pairAt ops fl) (List.filter (fun j => !listed.getD j true) (List.range i)) ++ List.map (pairAt ops fl) (List.filter (fun j => !listed.getD j true) (List.range' (i + 1) (ops.size - (i + 1))))) Hr s' K)
          (TopsD P z ops (List.map (pairAt ops fl) (List.filter (fun j => !listed.getD j true) (List.range i)) ++ List.map (pairAt ops fl) (List.filter (fun j => !listed.getD j true) (List.range' (i + 1) (ops.size - (i + 1))))) Hr (s.put o.dst (.tup [])) K) := hfront
        exact guard_mono hg (fun h => top_mono (topQ_keeps hsub h) fun s' h => ⟨Hr, h.1, h.2⟩) (fun h => ⟨Hr, hsub, h⟩)
    refine ⟨fun hr => ?_, step⟩
    -- something is ready
    exfalso
    obtain ⟨i, hi, hmin⟩ : ∃ i, i ∈ remOf ops.size listed ∧ ∀ j ∈ remOf ops.size listed, i ≤ j := by
      have hne : remOf ops.size listed ≠ [] := by intro e; rw [e] at hlen; cases hlen
      exact ⟨(remOf ops.size listed).min hne, List.min_mem hne, fun j hj => List.min_le_of_mem hj⟩
    obtain ⟨hin, hun⟩ := mem_rem.1 hi
    have ho : ops[i]? = some ops[i] := Array.getElem?_eq_getElem hin
    obtain ⟨hdeps, _⟩ := drawOK_at hok ho
    have : i ∈ Region.ready .any ops listed := by
      unfold Region.ready
      simp only [List.mem_filter, List.mem_range, Bool.and_eq_true, Bool.not_eq_true']
      refine ⟨hin, hun, ?_⟩
      rw [ho]
      simp only [Option.map_some, Option.getD_some, ← Array.all_toList, List.all_eq_true]
      intro e he
      cases hb : Region.binds .any e with
      | false => rfl
      | true =>
        have hlt := hdeps e he hb
        have : listed.getD e.on true = true := by
          apply Classical.byContradiction
          intro hc
          have := hmin e.on (mem_rem.2 ⟨by omega, by simpa using hc⟩)
          omega
        rw [Array.getD_eq_getD_getElem?] at this ⊢
        have hlx : e.on < listed.size := by omega
        rw [Array.getElem?_eq_getElem hlx] at this ⊢
        simpa using this
    rw [hr] at this
    cases this
end
end Go.Proofs.Ythdgdngdfijfhaa
namespace Go.Proofs.Ythdgdngdfijfhaa
open Go.RowKit
set_option linter.unusedVariables false
set_option linter.unusedSimpArgs false
def dstOK (n : Nat) : Code → Bool
  | .region _ ops _ => ops.toList.all fun o => match o.dst with
    | some d => decide (d < n)
    | none => true
  | .seq a b => dstOK n a && dstOK n b
  | .cond _ a b => dstOK n a && dstOK n b
  | .block _ c => dstOK n c
  | .loop c => dstOK n c
  | _ => true
def X.toExit : X → Exit
  | .normal => .normal
  | .exit id => .exit id
  | .ret => .ret
section
variable {P : Program} {X0 : Nat → Prop}
def Post (P : Program) (γ : GP) (n : Nat) (w0 : World) (O0 X0 : Nat → Prop) (Q : X → St → Prop) (e : Exit) (a : Act) (w : World) : Prop :=
  ∃ x s, e = x.toExit ∧ SR P γ n w0 O0 X0 s a w ∧ Q x s
theorem dst_of {n : Nat} {ops : Array Oper} (h : (ops.toList.all fun o => match o.dst with | some d => decide (d < n) | none => true) = true) : ∀ o ∈ ops.toList, ∀ t, o.dst = some t → t < n := by
  intro o ho t ht
  have := List.all_eq_true.1 h o ho
  rw [ht] at this
  simpa using this
theorem T_wp {γ : GP} {n : Nat} {w0 : World} {O0 : Nat → Prop} (hm : P.follows .mixedOrders = true) : ∀ (c : Code) (s : St) (a : Act) (w : World) (Q : X → St → Prop), dstOK n c = true → SR P γ n w0 O0 X0 s a w → T P c s Q →
    c.wp P (Post P γ n w0 O0 X0 Q) a w := by
  intro c
  induction c with
  | skip => intro s a w Q _ h hT; exact wp_skip ⟨.normal, s, rfl, h, hT⟩
  | region id ops draw =>
    intro s a w Q hd h hT
    have hdst := dst_of (by simpa only [dstOK] using hd)
    cases draw with
    | false =>
      have hT : Tops P ops ops.toList s (Q .normal) := hT
      exact wp_region_list (tops_wp (fun s a w hs hk => ⟨.normal, s, rfl, hs, hk⟩) ops.toList s a w hdst h hT)
    | true =>
      obtain ⟨z, fl, Hr, hok, hsub, hT⟩ : ∃ z fl, ∃ Hr : Hp, drawOK z ops fl = true ∧ (∀ l c, Hr l = some c → s.H l = some c) ∧ TopsD P z ops (marked ops.toList fl) Hr s (Q .normal) := hT
      have hrem : remOf ops.size (Array.replicate ops.size false) = List.range ops.size := by
        unfold remOf
        rw [List.filter_eq_self]
        intro i hi
        simp only [List.mem_range] at hi
        simp [Array.getD_eq_getD_getElem?, Array.getElem?_replicate, hi]
      refine wp_region_any hm ?_
      refine topsD_any (K := Q .normal) hok hdst (fun s a w hs hk => ⟨.normal, s, rfl, hs, hk⟩) ops.size _ Hr s a _ (by simp) (by rw [hrem]; simp) (h.keep (Fr.drew w _)) hsub (fun j o _ hj => by
        simp only [Array.getD_eq_getD_getElem?, Array.getElem?_replicate] at hj
        split at hj <;> simp at hj) ?_
      rw [hrem, ← marked_eq]
      exact hT
  | seq x y ihx ihy =>
    intro s a w Q hd h hT
    simp only [dstOK, Bool.and_eq_true] at hd
    refine wp_seq (wp_mono (ihx s a w _ hd.1 h hT) ?_)
    rintro e a' w' ⟨x', s', rfl, hs, hq⟩
    cases x' with
    | normal => exact ihy s' a' w' Q hd.2 hs hq
    | exit id => exact ⟨.exit id, s', rfl, hs, hq⟩
    | ret => exact ⟨.ret, s', rfl, hs, hq⟩
  | cond c x y ihx ihy =>
    intro s a w Q hd h hT
    simp only [dstOK, Bool.and_eq_true] at hd
    obtain ⟨t, ht, hT⟩ := hT
    have hv := h.ev c
    rw [ht] at hv
    refine wp_cond hv.bool_inv ?_
    cases t with
    | true => exact ihx s a w Q hd.1 h hT
    | false => exact ihy s a w Q hd.2 h hT
  | block id c ih =>
    intro s a w Q hd h hT
    refine wp_block (wp_mono (ih s a w _ hd h hT) ?_)
    rintro e a' w' ⟨x', s', rfl, hs, hq⟩
    cases x' with
    | normal => exact ⟨.normal, s', rfl, hs, hq⟩
    | exit id' =>
      simp only [X.toExit, Exit.inBlock]
      by_cases hid : id' = id
      · rw [if_pos hid]
        simp only [hid, if_true] at hq
        exact ⟨.normal, s', rfl, hs, hq⟩
      · rw [if_neg hid]
        simp only [hid, if_false] at hq
        exact ⟨.exit id', s', rfl, hs, hq⟩
    | ret => exact ⟨.ret, s', rfl, hs, hq⟩
  | loop c ih =>
    intro s a w Q hd h hT
    obtain ⟨k, hT⟩ := hT
    refine wp_loop_rounds k ?_
    have key : ∀ (k : Nat) (s : St) (a : Act) (w : World), SR P γ n w0 O0 X0 s a w → iter (Wk P c) (T P c) k s Q → Code.rounds P c (Post P γ n w0 O0 X0 Q) k a w := by
      intro k
      induction k with
      | zero => intro s a w _ h; exact h.elim
      | succ k ihk =>
        intro s a w hs hk
        obtain ⟨s2, hwk, hk⟩ := hk γ.N
        replace hs := hwk.2 _ _ _ _ _ _ _ rfl hs
        rw [rounds_succ]
        refine wp_mono (ih s2 a w _ hd hs hk) ?_
        rintro e a' w' ⟨x', s', rfl, hs', hq⟩
        cases x' with
        | normal => exact ihk s' a' w' hs' hq
        | exit id => exact ⟨.exit id, s', rfl, hs', hq⟩
        | ret => exact ⟨.ret, s', rfl, hs', hq⟩
    exact key k s a w h hT
  | exit id => intro s a w Q _ h hT; exact wp_exit ⟨.exit id, s, rfl, h, hT⟩
  | ret => intro s a w Q _ h hT; exact wp_ret ⟨.ret, s, rfl, h, hT⟩
  | rangeFunc f ps as b => intro s a w Q _ h hT; exact hT.elim
  | scope b => intro s a w Q _ h hT; exact hT.elim
  | label l => intro s a w Q _ h hT; exact hT.elim
  | goto l => intro s a w Q _ h hT; exact hT.elim
  | refuse why => intro s a w Q _ h hT; exact hT.elim
def resOne (P : Program) (s : St) : ResultVar → Option PV
  | .tmp t => some (s.env t)
  | .cell a t => match s.env a with
    | .ref l sz i off => (rowOf s.H l sz).bind fun xs => (xs[i]?).bind fun x => loadCs P t x.cells off
    | .cptr cs => loadCs P t cs 0
    | _ => none
def one : List PV → PV
  | [v] => v
  | vs => .tup vs
def resVal (P : Program) (rs : Array ResultVar) (s : St) : Option PV := (rs.toList.mapM (resOne P s)).map one
def argEnv (as : List PV) : Nat → PV := fun i => as.getD i (.tup [])
structure FnOK (P : Program) (f : FuncId) (fn : Func) (c : Code) : Prop where
  mixed : P.follows .mixedOrders = true
  func : P.funcs[f]? = some fn
  body : fn.body = some c
  name : (fn.name != "runtime.NumGoroutine") = true
  dst : dstOK fn.ntmps c = true
theorem FnOK.callable {f : FuncId} {fn : Func} {c : Code} (h : FnOK P f fn c) : callable P f = true := by
  unfold Go.Proofs.Ythdgdngdfijfhaa.callable
  rw [h.func]
  simp only [h.name, h.body, Option.isSome_some, Bool.and_self]
def resSem (tmps : Array Value) : ResultVar → Sem Value
  | .tmp t => pure (tmps.getD t undef)
  | .cell b t => do loadVar t (← asAddr (tmps.getD b undef))
theorem results_eq (fn : Func) (tmps : Array Value) : results fn tmps = (fn.results.mapM (resSem tmps) >>= fun vs => pure (if h : vs.size = 1 then vs[0] else .tuple vs)) := by
  unfold results
  refine congrArg (fun m => m >>= _) ?_
  refine congrArg (fun F => Array.mapM F fn.results) ?_
  funext r
  cases r <;> rfl
theorem results_run {γ : GP} {n : Nat} {w0 w : World} {O0 : Nat → Prop} {s : St} {a : Act} {fn : Func} {v : PV} (h : SR P γ n w0 O0 X0 s a w) (hv : resVal P fn.results s = some v) :
    ∃ u, (results fn a.tmps).run P w = .ok u w ∧ VR w (both X0 s.H) u v := by
  obtain ⟨vs, hvs, rfl⟩ := Option.map_eq_some_iff.1 hv
  have one_ : ∀ r q, resOne P s r = some q → ∃ u, (resSem a.tmps r).run P w = .ok u w ∧ VR w (both X0 s.H) u q := by
    intro r q hr
    cases r with
    | tmp t =>
      simp only [resOne, Option.some.injEq] at hr
      subst hr
      exact ⟨_, rfl, h.env t⟩
    | cell b t =>
      simp only [resOne] at hr
      have hvb := h.env b
      have conv : ∀ u v', (Instr.loadAt t v').run P w = .ok u w → (do loadVar t (← asAddr v') : Sem Value).run P w = .ok u w := by
        intro u v' hl
        cases v' <;> try (simp [Instr.loadAt, Instr.sureAddr] at hl; done)
        rename_i ad
        cases ad <;> simp [Instr.loadAt, Instr.sureAddr, asAddr] at hl ⊢
        exact hl
      split at hr
      · rename_i l sz i off e
        rw [e] at hvb
        obtain ⟨xs, hxs, hr⟩ := Option.bind_eq_some_iff.1 hr
        obtain ⟨y, hy, hr⟩ := Option.bind_eq_some_iff.1 hr
        obtain ⟨u, hu, hq⟩ := loadAt_ref h.heap hvb hxs hy hr
        exact ⟨u, conv _ _ hu, hq⟩
      · rename_i cs e
        rw [e] at hvb
        obtain ⟨u, hu, hq⟩ := loadAt_cptr hvb hr
        exact ⟨u, conv _ _ hu, hq⟩
      · cases hr
  have all : ∀ (l : List ResultVar) (qs : List PV), l.mapM (resOne P s) = some qs → ∃ us : List Value, (l.mapM (resSem a.tmps)).run P w = .ok us w ∧
      us.length = qs.length ∧ ∀ (i : Nat) u q, us[i]? = some u → qs[i]? = some q → VR w (both X0 s.H) u q := by
    intro l
    induction l with
    | nil =>
      intro qs hq
      simp at hq
      subst hq
      exact ⟨[], by simp, rfl, fun i u q h => by simp at h⟩
    | cons r l ih =>
      intro qs hq
      simp only [List.mapM_cons, Option.bind_eq_bind, Option.pure_def] at hq
      obtain ⟨q, hq1, hq⟩ := Option.bind_eq_some_iff.1 hq
      obtain ⟨qs', hq2, hq⟩ := Option.bind_eq_some_iff.1 hq
      obtain rfl := Option.some.inj hq
      obtain ⟨u, hu, huq⟩ := one_ r q hq1
      obtain ⟨us, hus, hl, hel⟩ := ih qs' hq2
      refine ⟨u :: us, ?_, by simp [hl], fun i v p hv hp => ?_⟩
      · rw [List.mapM_cons, Sem.run_bind, hu]
        simp only [Result.andThen_ok, Sem.run_bind, hus, Sem.run_pure]
      · cases i with
        | zero =>
          obtain rfl : u = v := by simpa using hv
          obtain rfl : q = p := by simpa using hp
          exact huq
        | succ i => exact hel i v p (by simpa using hv) (by simpa using hp)
  obtain ⟨us, hus, hl, hel⟩ := all _ _ hvs
  have hrun : (results fn a.tmps).run P w = .ok (if h : us.toArray.size = 1 then us.toArray[0] else .tuple us.toArray) w := by
    rw [results_eq, Sem.run_bind, Array.mapM_eq_mapM_toList, Sem.run_map, hus]
    rfl
  refine ⟨_, hrun, ?_⟩
  cases hvs' : vs with
  | nil =>
    subst hvs'
    obtain rfl := List.eq_nil_of_length_eq_zero hl
    exact .tup [] _ rfl (fun i v p h => by simp at h)
  | cons q qs =>
    subst hvs'
    cases qs with
    | nil =>
      obtain ⟨u, rfl⟩ : ∃ u, us = [u] := List.length_eq_one_iff.1 (by simpa using hl)
      exact hel 0 u q rfl rfl
    | cons q' qs =>
      have h2 : ¬ us.toArray.size = 1 := by simp at hl ⊢; omega
      rw [dif_neg h2]
      exact .tup _ _ (by simpa using hl) (fun i v p hv hp => hel i v p (by simpa using hv) hp)
def PureEnd (P : Program) (fn : Func) (r : PV) (x : X) (s : St) : Prop :=
  (x = .normal ∨ x = .ret) ∧ ∃ v keep n, resVal P fn.results s = some v ∧ norm keep s.H n v = some r
theorem start_SR {γ : GP} {w : World} {fn : Func} {vs : Array Value} {as : List PV} {H : Hp} (hX : ∀ b, X0 b → b < w.heap.size) (hH : HR w X0 H) (hv : VRs w (both X0 H) vs as) (hl : as.length ≤ fn.ntmps) (hG : Gs γ H) :
    SR P γ fn.ntmps w (own H) X0 ⟨argEnv as, H⟩ { tmps := vs ++ Array.replicate (fn.ntmps - vs.size) undef, defers := [] } w := by
  refine ⟨?_, rfl, fun i => ?_, hH, Fr.refl _ _, fun b hb => .inl hb, hX, hG⟩
  · have := hv.1
    simp; omega
  · show VR w (both X0 H) ((vs ++ Array.replicate (fn.ntmps - vs.size) undef).getD i undef) (argEnv as i)
    unfold argEnv
    rw [Array.getD_eq_getD_getElem?, List.getD_eq_getElem?_getD]
    rcases Nat.lt_or_ge i vs.size with h | h
    · rw [Array.getElem?_append_left h]
      have h' : i < as.length := by rw [← hv.1]; exact h
      have := hv.2 i vs[i] as[i] (Array.getElem?_eq_getElem h) (List.getElem?_eq_getElem h')
      rw [Array.getElem?_eq_getElem h, List.getElem?_eq_getElem h']
      exact this
    · rw [Array.getElem?_append_right h, List.getElem?_eq_none (by rw [← hv.1]; exact h)]
      have : (Array.replicate (fn.ntmps - vs.size) undef)[i - vs.size]?.getD undef = undef := by
        rw [Array.getElem?_replicate]
        split <;> rfl
      rw [this]
      exact .tup [] #[] rfl (fun i v p h => by simp at h)
theorem VRs.less_own {w : World} {vs : Array Value} {as : List PV} (h : VRs w X0 vs as) : VRs w (both X0 fun _ => none) vs as :=
  ⟨h.1, fun i v p hv hp => (h.2 i v p hv hp).less (fun b _ hb => hb.elim id (fun ⟨_, _, e⟩ => by cases e))⟩
theorem ppure_of_T {f : FuncId} {fn : Func} {c : Code} (h : FnOK P f fn c) {as : List PV} {r : PV} (hl : as.length ≤ fn.ntmps) (hT : T P c ⟨argEnv as, fun _ => none⟩ (PureEnd P fn r)) : PPure P f as r := by
  refine ⟨h.callable, fun w X vs hX hv => ?_⟩
  have hH : HR w X (fun _ => none) := fun l m sz xs e => by cases e
  have hown : ∀ b, ¬ own (fun _ => none) b := fun b ⟨_, _, e⟩ => by cases e
  have hs := start_SR (P := P) (fn := fn) (γ := ⟨0, fun _ => False⟩) hX hH (hv : VRs w X vs as).less_own hl ⟨fun g c e => (by cases e), 0, fun g _ => rfl⟩
  refine calls_of_wp h.func h.body (wp_mono (T_wp h.mixed c _ _ _ _ h.dst hs hT) ?_)
  rintro e a' w' ⟨x, s', rfl, hs', hx, v, keep, n, hres, hn⟩
  obtain ⟨u, hu, huv⟩ := results_run hs' hres
  have hr : VR w' X u r := norm_VR hs'.heap (fun _ _ h => h) (fun b _ hb => .inl hb) (fun b c hb hX => by
    obtain ⟨m, sz, xs⟩ := c
    exact (hs'.heap _ _ _ _ hb).2.1 hX) n v r u huv hn
  have hb : Below w.heap.size w w' := (hs'.fr.weaken (fun b _ hb => absurd hb (hown b))).below
  rcases hx with rfl | rfl <;> exact ⟨hs'.defers, u, hu, u, rfl, hb, hr⟩
theorem callsG_of_T {f : FuncId} {fn : Func} {c : Code} (h : FnOK P f fn c) {as : List PV} {H : Hp} {K : PV → Hp → Prop} (hl : as.length ≤ fn.ntmps)
    (hT : T P c ⟨argEnv as, H⟩ (fun x s => (x = .normal ∨ x = .ret) ∧ ∃ v H', resVal P fn.results s = some v ∧ (∀ l c, H' l = some c → s.H l = some c) ∧ K v H')) : CallsG P f as H K := by
  refine ⟨h.callable, fun N w X vs hX hH hB hv => ?_⟩
  have hs := start_SR (P := P) (fn := fn) (γ := ⟨N, fun g => (H (.ghost g)).isSome = true⟩) hX hH hv hl ⟨fun g c e => .inl (by show (H (.ghost g)).isSome = true; rw [e]; rfl), hB⟩
  refine calls_of_wp h.func h.body (wp_mono (T_wp h.mixed c _ _ _ _ h.dst hs hT) ?_)
  rintro e a' w' ⟨x, s', rfl, hs', hx, v, H', hres, hsub, hK⟩
  obtain ⟨u, hu, huv⟩ := results_run hs' hres
  have hs2 := hs'.sub hsub
  have hr : VR w' (both X H') u v := huv.less (fun b _ hb => hb.imp id (fun ⟨sz, xs, e⟩ => ⟨sz, xs, hsub _ _ e⟩))
  rcases hx with rfl | rfl <;> exact ⟨hs'.defers, u, hu, u, v, H', rfl, hs'.fr, hs2.heap, hs2.new, hr, hs2.gs, hK⟩
end
end Go.Proofs.Ythdgdngdfijfhaa
namespace Go.Proofs.Ythdgdngdfijfhaa
open Go.RowKit
set_option linter.unusedVariables false
set_option linter.unusedSimpArgs false
def bodyOf (fn : Func) : Code := fn.body.getD .skip
def fnB (P : Program) (f : FuncId) (fn : Func) : Bool :=
  P.follows .mixedOrders && fn.body.isSome && fn.name != "runtime.NumGoroutine" && dstOK fn.ntmps (bodyOf fn)
theorem FnOK.mk' {P : Program} {f : FuncId} {fn : Func} (hf : P.funcs[f]? = some fn) (h : fnB P f fn = true) : FnOK P f fn (bodyOf fn) := by
  unfold fnB at h
  simp only [Bool.and_eq_true] at h
  obtain ⟨⟨⟨h1, h2⟩, h3⟩, h4⟩ := h
  refine ⟨h1, hf, ?_, h3, h4⟩
  unfold bodyOf
  cases e : fn.body with
  | none => rw [e] at h2; cases h2
  | some c => rfl
section
variable {zb : Bool} {P : Program} {s : St}
def Kseq (P : Program) (b : Code) (Q : X → St → Prop) (x : X) (s : St) : Prop :=
  match x with
  | .normal => T P b s Q
  | x => Q x s
def Kblk (id : Nat) (Q : X → St → Prop) (x : X) (s : St) : Prop :=
  match x with
  | .exit id' => if id' = id then Q .normal s else Q (.exit id') s
  | x => Q x s
def Kinv (I : Nat → St → Prop) (k : Nat) (Q : X → St → Prop) (x : X) (s : St) : Prop :=
  match x with
  | .normal => ∃ k', k' < k ∧ I k' s
  | x => Q x s
theorem t_skip {Q : X → St → Prop} (h : Q .normal s) : T P .skip s Q := h
theorem t_seq {a b : Code} {Q : X → St → Prop} (h : T P a s (Kseq P b Q)) : T P (.seq a b) s Q := h
theorem t_block {id : Nat} {c : Code} {Q : X → St → Prop} (h : T P c s (Kblk id Q)) : T P (.block id c) s Q := h
theorem t_exit {id : Nat} {Q : X → St → Prop} (h : Q (.exit id) s) : T P (.exit id) s Q := h
theorem t_ret {Q : X → St → Prop} (h : Q .ret s) : T P .ret s Q := h
theorem t_cond {c : Operand} {x y : Code} {Q : X → St → Prop} (b : Bool) (hb : evo s c = .bool b) (h1 : b = true → T P x s Q) (h2 : b = false → T P y s Q) : T P (.cond c x y) s Q := by
  refine ⟨b, hb, ?_⟩
  cases b with
  | true => exact h1 rfl
  | false => exact h2 rfl
theorem t_region {id : Nat} {ops : Array Oper} {Q : X → St → Prop} (h : Tops P ops ops.toList s (Q .normal)) : T P (.region id ops false) s Q := h
theorem t_drawZ {id : Nat} {ops : Array Oper} {Q : X → St → Prop} (fl : List Bool) (Hr : Hp) (hsub : ∀ l c, Hr l = some c → s.H l = some c) (hok : drawOK true ops fl = true) (h : TopsD P true ops (marked ops.toList fl) Hr s (Q .normal)) : T P (.region id ops true) s Q := ⟨true, fl, Hr, hok, hsub, h⟩
theorem t_draw {id : Nat} {ops : Array Oper} {Q : X → St → Prop} (fl : List Bool) (hok : drawOK false ops fl = true) (h : TopsD P false ops (marked ops.toList fl) s.H s (Q .normal)) : T P (.region id ops true) s Q := ⟨false, fl, s.H, hok, fun _ _ h => h, h⟩
theorem t_drawH {id : Nat} {ops : Array Oper} {Q : X → St → Prop} (fl : List Bool) (Hr : Hp) (hsub : ∀ l c, Hr l = some c → s.H l = some c) (hok : drawOK false ops fl = true) (h : TopsD P false ops (marked ops.toList fl) Hr s (Q .normal)) : T P (.region id ops true) s Q := ⟨false, fl, Hr, hok, hsub, h⟩
theorem k_seq {b : Code} {Q : X → St → Prop} (h : T P b s Q) : Kseq P b Q .normal s := h
theorem k_seq_exit {b : Code} {Q : X → St → Prop} {id : Nat} (h : Q (.exit id) s) : Kseq P b Q (.exit id) s := h
theorem k_seq_ret {b : Code} {Q : X → St → Prop} (h : Q .ret s) : Kseq P b Q .ret s := h
theorem k_blk {id : Nat} {Q : X → St → Prop} (h : Q .normal s) : Kblk id Q .normal s := h
theorem k_blk_ret {id : Nat} {Q : X → St → Prop} (h : Q .ret s) : Kblk id Q .ret s := h
theorem k_blk_exit {id : Nat} {Q : X → St → Prop} (h : Q .normal s) : Kblk id Q (.exit id) s := by
  simp only [Kblk, if_true]; exact h
theorem k_blk_other {id id' : Nat} {Q : X → St → Prop} (hne : id' ≠ id) (h : Q (.exit id') s) : Kblk id Q (.exit id') s := by
  simp only [Kblk, hne, if_false]; exact h
theorem k_inv {I : Nat → St → Prop} {k : Nat} {Q : X → St → Prop} (k' : Nat) (hlt : k' < k) (h : I k' s) : Kinv I k Q .normal s := ⟨k', hlt, h⟩
theorem k_inv_exit {I : Nat → St → Prop} {k : Nat} {Q : X → St → Prop} {id : Nat} (h : Q (.exit id) s) : Kinv I k Q (.exit id) s := h
theorem k_inv_ret {I : Nat → St → Prop} {k : Nat} {Q : X → St → Prop} (h : Q .ret s) : Kinv I k Q .ret s := h
theorem tops_mono {ops : Array Oper} {K K' : St → Prop} (hk : ∀ s, K s → K' s) : ∀ (l : List Oper) (s : St), Tops P ops l s K → Tops P ops l s K'
  | [], s, h => hk s h
  | o :: rest, s, h => guard_mono h (fun h => top_mono h fun s' h => tops_mono hk rest s' h) (fun h => tops_mono hk rest _ h)
theorem CallQ.mono {f : FuncId} {as : List PV} {Hr : Hp} {K K' : PV → Prop} (h : CallQ P f as Hr K) (hk : ∀ v, K v → K' v) : CallQ P f as Hr K' := by
  rcases h with ⟨keep, n, as', r, h1, h2, h3, h4⟩ | ⟨keep, n, as', r, h1, h2, h3⟩
  · exact .inl ⟨keep, n, as', r, h1, h2, h3, hk _ h4⟩
  · exact .inr ⟨keep, n, as', r, h1, h2, hk _ h3⟩
theorem topsD_mono {ops : Array Oper} {K K' : St → Prop} (hk : ∀ s, K s → K' s) : ∀ (l : List (Oper × Bool)) (Hr : Hp) (s : St), TopsD P zb ops l Hr s K → TopsD P zb ops l Hr s K'
  | [], Hr, s, h => hk s h
  | (o, true) :: rest, Hr, s, h => ⟨h.1, guard_mono h.2 (fun h => top_mono h fun s' ⟨Hr, h1, hz, h⟩ => ⟨Hr, h1, hz, topsD_mono hk rest _ s' h⟩) (fun ⟨Hr, h1, hz, h⟩ => ⟨Hr, h1, hz, topsD_mono hk rest _ _ h⟩)⟩
  | (o, false) :: rest, Hr, s, h => Step.mono (show Step P ops Hr o s _ from h) fun s' h => topsD_mono hk rest Hr s' h
theorem T_mono : ∀ (c : Code) (s : St) (Q Q' : X → St → Prop), (∀ x s, Q x s → Q' x s) → T P c s Q → T P c s Q' := by
  intro c
  induction c with
  | skip => intro s Q Q' hq h; exact hq _ _ h
  | region id ops draw =>
    intro s Q Q' hq h
    cases draw with
    | false => exact tops_mono (hq .normal) ops.toList s h
    | true =>
      obtain ⟨z, fl, Hr, hok, h1, h⟩ := h
      exact ⟨z, fl, Hr, hok, h1, topsD_mono (hq .normal) _ _ s h⟩
  | seq a b iha ihb =>
    intro s Q Q' hq h
    refine iha s _ _ (fun x s' hx => ?_) h
    cases x with
    | normal => exact ihb s' Q Q' hq hx
    | exit id => exact hq _ _ hx
    | ret => exact hq _ _ hx
  | cond c a b iha ihb =>
    intro s Q Q' hq h
    obtain ⟨t, ht, h⟩ := h
    refine ⟨t, ht, ?_⟩
    cases t with
    | true => exact iha s Q Q' hq h
    | false => exact ihb s Q Q' hq h
  | block id c ih =>
    intro s Q Q' hq h
    refine ih s _ _ (fun x s' hx => ?_) h
    cases x with
    | normal => exact hq _ _ hx
    | exit id' =>
      by_cases e : id' = id
      · simp only [e, if_true] at hx ⊢; exact hq _ _ hx
      · simp only [e, if_false] at hx ⊢; exact hq _ _ hx
    | ret => exact hq _ _ hx
  | loop c ih =>
    intro s Q Q' hq h
    obtain ⟨k, h⟩ := h
    refine ⟨k, ?_⟩
    induction k generalizing s with
    | zero => exact h
    | succ k ihk =>
      intro N
      obtain ⟨s2, hw, h⟩ := h N
      refine ⟨s2, hw, ih s2 _ _ (fun x s' hx => ?_) h⟩
      cases x with
      | normal => exact ihk s' hx
      | exit id => exact hq _ _ hx
      | ret => exact hq _ _ hx
  | exit id => intro s Q Q' hq h; exact hq _ _ h
  | ret => intro s Q Q' hq h; exact hq _ _ h
  | rangeFunc f ps as b => intro s Q Q' hq h; exact h
  | scope b => intro s Q Q' hq h; exact h
  | label l => intro s Q Q' hq h; exact h
  | goto l => intro s Q Q' hq h; exact h
  | refuse why => intro s Q Q' hq h; exact h
theorem iter_mono_k {W : Nat → St → St → Prop} {F : St → (X → St → Prop) → Prop} (hF : ∀ s Q Q', (∀ x s, Q x s → Q' x s) → F s Q → F s Q') {Q : X → St → Prop} : ∀ (k j : Nat) (s : St), k ≤ j → iter W F k s Q → iter W F j s Q := by
  intro k
  induction k with
  | zero => intro j s _ h; exact h.elim
  | succ k ih =>
    intro j s hj h
    obtain ⟨j, rfl⟩ : ∃ j', j = j' + 1 := ⟨j - 1, by omega⟩
    intro N
    obtain ⟨s2, hw, h⟩ := h N
    refine ⟨s2, hw, hF s2 _ _ (fun x s' hx => ?_) h⟩
    cases x with
    | normal => exact ih j s' (by omega) hx
    | exit id => exact hx
    | ret => exact hx
def KinvW (P : Program) (c : Code) (I : Nat → St → Prop) (k : Nat) (Q : X → St → Prop) (x : X) (s : St) : Prop :=
  match x with
  | .normal => ∃ k', k' < k ∧ ∀ N, ∃ s2, Wk P c N s s2 ∧ I k' s2
  | x => Q x s
theorem t_loopW {c : Code} {Q : X → St → Prop} (I : Nat → St → Prop) (k : Nat) (h0 : ∀ N, ∃ s2, Wk P c N s s2 ∧ I k s2) (step : ∀ k s, I k s → T P c s (KinvW P c I k Q)) : T P (.loop c) s Q := by
  refine ⟨k + 1, ?_⟩
  have key : ∀ (k : Nat) (s : St), (∀ N, ∃ s2, Wk P c N s s2 ∧ I k s2) → iter (Wk P c) (T P c) (k + 1) s Q := by
    intro k
    induction k using Nat.strongRecOn with
    | _ k ih =>
      intro s hs N
      obtain ⟨s2, hw, hs⟩ := hs N
      refine ⟨s2, hw, T_mono c s2 _ _ (fun x s' hx => ?_) (step k s2 hs)⟩
      cases x with
      | normal =>
        obtain ⟨k', hlt, h'⟩ := hx
        exact iter_mono_k (T_mono c) (k' + 1) k s' (by omega) (ih k' hlt s' h')
      | exit id => exact hx
      | ret => exact hx
  exact key k s h0
theorem t_loop {c : Code} {Q : X → St → Prop} (I : Nat → St → Prop) (k : Nat) (h0 : I k s) (step : ∀ k s, I k s → T P c s (Kinv I k Q)) : T P (.loop c) s Q :=
  t_loopW I k (fun N => ⟨s, Wk.refl _ _ _ _, h0⟩) fun k s hs => T_mono c s _ _ (fun x s' hx => by
    cases x with
    | normal => obtain ⟨k', hlt, h'⟩ := hx; exact ⟨k', hlt, fun N => ⟨s', Wk.refl _ _ _ _, h'⟩⟩
    | exit id => exact hx
    | ret => exact hx) (step k s hs)
section
variable {ops : Array Oper} {K : St → Prop} {rest : List Oper} {dst : Option Tmp} {ty : TypeId} {pos : String} {af : Array Edge}
theorem t_nil (h : K s) : Tops P ops [] s K := h
theorem t_val {op : Op} (v : PV) (he : isEff op = false) (hc : ∀ g args ts, op ≠ .call ⟨.value g, args, ts⟩) (hv : opVal P s op = some v) (h : Tops P ops rest (s.put dst v) K) :
    Tops P ops (⟨dst, op, ty, pos, af, none⟩ :: rest) s K := by
  show Tguard _ _ _ _ _
  unfold Tguard
  simp only
  unfold Top
  split
  · rename_i g args ts ho; exact absurd ho (hc _ _ _)
  · rw [he]; exact ⟨v, .inl hv, h⟩
theorem t_eff {op : Op} (he : isEff op = true) (h : opEff P true s op fun v H' => Tops P ops rest ({ s with H := H' }.put dst v) K) : Tops P ops (⟨dst, op, ty, pos, af, none⟩ :: rest) s K := by
  show Tguard _ _ _ _ _
  unfold Tguard
  simp only
  unfold Top
  split
  · rename_i g args ts ho
    have ho : op = _ := ho
    subst ho
    cases he
  · rw [if_pos he]; exact h
theorem t_call {g : Operand} {args : Array Operand} {ts : Array TypeId} (f : Nat) (caps : List PV) (hg : evo s g = .fn f caps)
    (h : CallOK P f (args.toList.map (evo s) ++ caps) s.H fun r H' => Tops P ops rest ({ s with H := H' }.put dst r) K) : Tops P ops (⟨dst, .call ⟨.value g, args, ts⟩, ty, pos, af, none⟩ :: rest) s K := by
  show Tguard _ _ _ _ _
  unfold Tguard
  simp only
  unfold Top
  simp only [hg]
  exact h
theorem t_gval {op : Op} {j : Nat} {want : Bool} {d : Tmp} (b : Bool) (v : PV) (hd : (ops[j]?).bind (·.dst) = some d) (hb : s.env d = .bool b) (he : isEff op = false) (hc : ∀ g args ts, op ≠ .call ⟨.value g, args, ts⟩)
    (hv : b = want → opVal P s op = some v) (h : Tops P ops rest (s.put dst (if b = want then v else .tup [])) K) :
    Tops P ops (⟨dst, op, ty, pos, af, some (j, want)⟩ :: rest) s K := by
  show Tguard _ _ _ _ _
  unfold Tguard
  simp only [hd, hb]
  split
  · rename_i hw
    rw [if_pos hw] at h
    unfold Top
    split
    · rename_i g args ts ho; exact absurd ho (hc _ _ _)
    · rw [he]; exact ⟨v, .inl (hv hw), h⟩
  · rename_i hw
    rw [if_neg hw] at h
    exact h
theorem t_gskip {op : Op} {j : Nat} {want : Bool} {d : Tmp} (hd : (ops[j]?).bind (·.dst) = some d) (hb : s.env d = .tup []) (h : Tops P ops rest (s.put dst (.tup [])) K) :
    Tops P ops (⟨dst, op, ty, pos, af, some (j, want)⟩ :: rest) s K := by
  show Tguard _ _ _ _ _
  unfold Tguard
  simp only [hd, hb]
  exact h
theorem norm_ok {keep : Bool} {H : Hp} {n : Nat} {as : List PV} (h : as.all (closedB keep) = true) : as.mapM (norm keep H (n + 1)) = some as := by
  induction as with
  | nil => simp
  | cons a as ih =>
    simp only [List.all_cons, Bool.and_eq_true] at h
    rw [List.mapM_cons, norm_closed h.1, ih h.2]
    rfl
theorem callok {f : FuncId} {as : List PV} {H : Hp} {K : PV → Hp → Prop} (keep : Bool) (ha : as.all (closedB keep) = true) (r : PV) (hp : PPure P f as r) (h : K r H) : CallOK P f as H K :=
  .inr (.inl ⟨keep, 1, [], as, r, norm_ok ha, hp, by rw [frz_nil]; exact h⟩)
theorem callok_own {f : FuncId} {as : List PV} {H : Hp} {K : PV → Hp → Prop} (keep : Bool) (n : Nat) (as' : List PV) (ha : as.mapM (norm keep H n) = some as') (r : PV) (hs : scalarB r = true) (hp : PPure P f as' r) (h : K r H) : CallOK P f as H K :=
  .inl ⟨keep, n, as', r, ha, hs, hp, h⟩
theorem callok_frz {f : FuncId} {as : List PV} {H : Hp} {K : PV → Hp → Prop} (keep : Bool) (n : Nat) (L : List Lab) (as' : List PV) (ha : as.mapM (norm keep (restr L H) n) = some as') (r : PV) (hp : PPure P f as' r) (h : K r (frz L H)) : CallOK P f as H K :=
  .inr (.inl ⟨keep, n, L, as', r, ha, hp, h⟩)
theorem callok_gen {f : FuncId} {as : List PV} {H : Hp} {K : PV → Hp → Prop} (h : CallsG P f as H K) : CallOK P f as H K := .inr (.inr h)
theorem callq {f : FuncId} {as : List PV} {H : Hp} {K : PV → Prop} (keep : Bool) (ha : as.all (closedB keep) = true) (r : PV) (hp : PPure P f as r) (h : K r) : CallQ P f as H K :=
  .inr ⟨keep, 1, as, r, norm_ok ha, hp, h⟩
theorem t_gcall {g : Operand} {args : Array Operand} {ts : Array TypeId} {j : Nat} {want : Bool} {d : Tmp} (b : Bool) (f : Nat) (caps : List PV) (r : PV) (hd : (ops[j]?).bind (·.dst) = some d) (hb : s.env d = .bool b)
    (hg : evo s g = .fn f caps) (hp : b = want → ∃ keep, (args.toList.map (evo s) ++ caps).all (closedB keep) = true ∧ PPure P f (args.toList.map (evo s) ++ caps) r) (h : Tops P ops rest (s.put dst (if b = want then r else .tup [])) K) :
    Tops P ops (⟨dst, .call ⟨.value g, args, ts⟩, ty, pos, af, some (j, want)⟩ :: rest) s K := by
  show Tguard _ _ _ _ _
  unfold Tguard
  simp only [hd, hb]
  split
  · rename_i hw
    rw [if_pos hw] at h
    unfold Top
    simp only [hg]
    obtain ⟨keep, ha, hp⟩ := hp hw
    exact callok keep ha r hp h
  · rename_i hw
    rw [if_neg hw] at h
    exact h
end
section
variable {ops : Array Oper} {K : St → Prop} {rest : List (Oper × Bool)} {dst : Option Tmp} {ty : TypeId} {pos : String} {af : Array Edge} {Hr : Hp}
theorem d_val {op : Op} (v : PV) (he : isEff op = false) (hc : ∀ g args ts, op ≠ .call ⟨.value g, args, ts⟩) (hv : opVal P { s with H := Hr } op = some v) (h : TopsD P zb ops rest Hr (s.put dst v) K) :
    TopsD P zb ops ((⟨dst, op, ty, pos, af, none⟩, false) :: rest) Hr s K := by
  show Tguard _ _ _ _ _
  unfold Tguard
  simp only
  unfold TopQ
  split
  · rename_i g args ts ho; exact absurd ho (hc _ _ _)
  · rename_i t ho; have ho : op = _ := ho; subst ho; cases he
  · rename_i t x ho; have ho : op = _ := ho; subst ho; cases he
  · rename_i args ts ho; have ho : op = _ := ho; subst ho; cases he
  · exact ⟨he, v, hv, h⟩
theorem d_call {g : Operand} {args : Array Operand} {ts : Array TypeId} (f : Nat) (caps : List PV) (hg : evo s g = .fn f caps)
    (h : CallQ P f (args.toList.map (evo s) ++ caps) Hr fun r => TopsD P zb ops rest Hr (s.put dst r) K) : TopsD P zb ops ((⟨dst, .call ⟨.value g, args, ts⟩, ty, pos, af, none⟩, false) :: rest) Hr s K := by
  show Tguard _ _ _ _ _
  unfold Tguard
  simp only
  unfold TopQ
  simp only [hg]
  exact .inl h
theorem d_eff {o : Oper} (hc : userCall o = true → ∀ q ∈ rest, allocOK P q.1) (h : Tguard ops o s (Top P o s fun s' => TopsD P false ops rest s'.H s' K) (TopsD P false ops rest s.H (s.put o.dst (.tup [])) K)) : TopsD P false ops ((o, true) :: rest) Hr s K :=
  ⟨hc, guard_mono h (fun h => top_mono h fun s' h => ⟨s'.H, fun _ _ h => h, nofun, h⟩) (fun h => ⟨s.H, fun _ _ h => h, nofun, h⟩)⟩
theorem d_effZ {o : Oper} (hc : userCall o = true → ∀ q ∈ rest, allocOK P q.1) (h : Tguard ops o s (Top P o s fun s' => (∀ l c, Hr l = some c → s'.H l = some c) ∧ TopsD P true ops rest Hr s' K) ((∀ l c, Hr l = some c → s.H l = some c) ∧ TopsD P true ops rest Hr (s.put o.dst (.tup [])) K)) : TopsD P true ops ((o, true) :: rest) Hr s K :=
  ⟨hc, guard_mono h (fun h => top_mono h fun s' h => ⟨Hr, h.1, fun _ _ _ h => h, h.2⟩) (fun h => ⟨Hr, h.1, fun _ _ _ h => h, h.2⟩)⟩
theorem d_gval {op : Op} {j : Nat} {want : Bool} {d : Tmp} (b : Bool) (v : PV) (hd : (ops[j]?).bind (·.dst) = some d) (hb : s.env d = .bool b) (he : isEff op = false) (hc : ∀ g args ts, op ≠ .call ⟨.value g, args, ts⟩)
    (hv : b = want → opVal P { s with H := Hr } op = some v) (h : TopsD P zb ops rest Hr (s.put dst (if b = want then v else .tup [])) K) :
    TopsD P zb ops ((⟨dst, op, ty, pos, af, some (j, want)⟩, false) :: rest) Hr s K := by
  show Tguard _ _ _ _ _
  unfold Tguard
  simp only [hd, hb]
  split
  · rename_i hw
    rw [if_pos hw] at h
    unfold TopQ
    split
    · rename_i g args ts ho; exact absurd ho (hc _ _ _)
    · rename_i t ho; have ho : op = _ := ho; subst ho; cases he
    · rename_i t x ho; have ho : op = _ := ho; subst ho; cases he
    · rename_i args ts ho; have ho : op = _ := ho; subst ho; cases he
    · exact ⟨he, v, hv hw, h⟩
  · rename_i hw
    rw [if_neg hw] at h
    exact h
theorem d_gcall {g : Operand} {args : Array Operand} {ts : Array TypeId} {j : Nat} {want : Bool} {d : Tmp} (b : Bool) (f : Nat) (caps : List PV) (r : PV) (hd : (ops[j]?).bind (·.dst) = some d) (hb : s.env d = .bool b)
    (hg : evo s g = .fn f caps) (hp : b = want → ∃ keep, (args.toList.map (evo s) ++ caps).all (closedB keep) = true ∧ PPure P f (args.toList.map (evo s) ++ caps) r) (h : TopsD P zb ops rest Hr (s.put dst (if b = want then r else .tup [])) K) :
    TopsD P zb ops ((⟨dst, .call ⟨.value g, args, ts⟩, ty, pos, af, some (j, want)⟩, false) :: rest) Hr s K := by
  show Tguard _ _ _ _ _
  unfold Tguard
  simp only [hd, hb]
  split
  · rename_i hw
    rw [if_pos hw] at h
    unfold TopQ
    simp only [hg]
    obtain ⟨keep, ha, hp⟩ := hp hw
    exact .inl (callq keep ha r hp h)
  · rename_i hw
    rw [if_neg hw] at h
    exact h
end
end
end Go.Proofs.Ythdgdngdfijfhaa
namespace Go.Proofs.Ythdgdngdfijfhaa
open Go.RowKit
set_option linter.unusedVariables false
set_option linter.unusedSimpArgs false
def TopsDm (P : Program) (z : Bool) (ops : Array Oper) (l : List Oper) (fl : List Bool) (Hr : Hp) (s : St) (K : St → Prop) : Prop := TopsD P z ops (marked l fl) Hr s K
section
variable {zb : Bool} {P : Program} {s : St}
theorem t_reg {id : Nat} {l : List Oper} {Q : X → St → Prop} (h : Tops P l.toArray l s (Q .normal)) : T P (.region id l.toArray false) s Q := t_region h
section
variable {ops : Array Oper} {K : St → Prop} {rest : List Oper} {dst : Option Tmp} {ty : TypeId} {pos : String} {af : Array Edge} {Hr : Hp} {fl : List Bool}
theorem m_nil (h : K s) : TopsDm P zb ops [] fl Hr s K := h
theorem m_false {o : Oper} (hf : fl.headD false = false) (h : TopsD P zb ops ((o, false) :: marked rest fl.tail) Hr s K) : TopsDm P zb ops (o :: rest) fl Hr s K := by
  unfold TopsDm; rw [marked, hf]; exact h
theorem m_true {o : Oper} (hf : fl.headD false = true) (h : TopsD P zb ops ((o, true) :: marked rest fl.tail) Hr s K) : TopsDm P zb ops (o :: rest) fl Hr s K := by
  unfold TopsDm; rw [marked, hf]; exact h
theorem m_trueE {o : Oper} (hf : fl.headD false = true) (hc : userCall o = true → ∀ q ∈ marked rest fl.tail, allocOK P q.1) (h : Tguard ops o s (Top P o s fun s' => TopsDm P false ops rest fl.tail s'.H s' K) (TopsDm P false ops rest fl.tail s.H (s.put o.dst (.tup [])) K)) : TopsDm P false ops (o :: rest) fl Hr s K :=
  m_true hf (d_eff hc h)
theorem m_trueZ {o : Oper} (hf : fl.headD false = true) (hc : userCall o = true → ∀ q ∈ marked rest fl.tail, allocOK P q.1) (h : Tguard ops o s (Top P o s fun s' => (∀ l c, Hr l = some c → s'.H l = some c) ∧ TopsDm P true ops rest fl.tail Hr s' K) ((∀ l c, Hr l = some c → s.H l = some c) ∧ TopsDm P true ops rest fl.tail Hr (s.put o.dst (.tup [])) K)) : TopsDm P true ops (o :: rest) fl Hr s K :=
  m_true hf (d_effZ hc h)
theorem m_val {op : Op} (v : PV) (hf : fl.headD false = false) (he : isEff op = false) (hc : ∀ g args ts, op ≠ .call ⟨.value g, args, ts⟩) (hv : opVal P { s with H := Hr } op = some v) (h : TopsDm P zb ops rest fl.tail Hr (s.put dst v) K) :
    TopsDm P zb ops (⟨dst, op, ty, pos, af, none⟩ :: rest) fl Hr s K := m_false hf (d_val v he hc hv h)
theorem m_call {g : Operand} {args : Array Operand} {ts : Array TypeId} (f : Nat) (caps : List PV) (hf : fl.headD false = false) (hg : evo s g = .fn f caps)
    (h : CallQ P f (args.toList.map (evo s) ++ caps) Hr fun r => TopsDm P zb ops rest fl.tail Hr (s.put dst r) K) : TopsDm P zb ops (⟨dst, .call ⟨.value g, args, ts⟩, ty, pos, af, none⟩ :: rest) fl Hr s K := m_false hf (d_call f caps hg h)
theorem m_gval {op : Op} {j : Nat} {want : Bool} {d : Tmp} (b : Bool) (v : PV) (hf : fl.headD false = false) (hd : (ops[j]?).bind (·.dst) = some d) (hb : s.env d = .bool b) (he : isEff op = false) (hc : ∀ g args ts, op ≠ .call ⟨.value g, args, ts⟩)
    (hv : b = want → opVal P { s with H := Hr } op = some v) (h : TopsDm P zb ops rest fl.tail Hr (s.put dst (if b = want then v else .tup [])) K) :
    TopsDm P zb ops (⟨dst, op, ty, pos, af, some (j, want)⟩ :: rest) fl Hr s K := m_false hf (d_gval b v hd hb he hc hv h)
theorem m_gcall {g : Operand} {args : Array Operand} {ts : Array TypeId} {j : Nat} {want : Bool} {d : Tmp} (b : Bool) (f : Nat) (caps : List PV) (r : PV) (hf : fl.headD false = false) (hd : (ops[j]?).bind (·.dst) = some d) (hb : s.env d = .bool b)
    (hg : evo s g = .fn f caps) (hp : b = want → ∃ keep, (args.toList.map (evo s) ++ caps).all (closedB keep) = true ∧ PPure P f (args.toList.map (evo s) ++ caps) r) (h : TopsDm P zb ops rest fl.tail Hr (s.put dst (if b = want then r else .tup [])) K) :
    TopsDm P zb ops (⟨dst, .call ⟨.value g, args, ts⟩, ty, pos, af, some (j, want)⟩ :: rest) fl Hr s K := m_false hf (d_gcall b f caps r hd hb hg hp h)
theorem t_gno {op : Op} {j : Nat} {want b : Bool} {d : Tmp} (hd : (ops[j]?).bind (·.dst) = some d) (hb : s.env d = .bool b) (hne : (b == want) = false) (h : Tops P ops rest (s.put dst (.tup [])) K) :
    Tops P ops (⟨dst, op, ty, pos, af, some (j, want)⟩ :: rest) s K := by
  show Tguard _ _ _ _ _
  unfold Tguard
  simp only [hd, hb]
  rw [if_neg (by simpa using hne)]
  exact h
theorem m_gno {op : Op} {j : Nat} {want b : Bool} {d : Tmp} (hd : (ops[j]?).bind (·.dst) = some d) (hb : s.env d = .bool b) (hf : fl.headD false = false) (hne : (b == want) = false) (h : TopsDm P zb ops rest fl.tail Hr (s.put dst (.tup [])) K) :
    TopsDm P zb ops (⟨dst, op, ty, pos, af, some (j, want)⟩ :: rest) fl Hr s K := by
  refine m_false hf ?_
  show Tguard _ _ _ _ _
  unfold Tguard
  simp only [hd, hb]
  rw [if_neg (by simpa using hne)]
  exact h
end
end
theorem wrap64_of {n : Int} (h1 : -9223372036854775808 ≤ n) (h2 : n ≤ 9223372036854775807) : IntKind.i64.wrap n = n := by rw [IntKind.wrap_i64]; omega
theorem pick_bool (b x y : Bool) : (if b = true then PV.bool x else PV.bool y) = PV.bool (if b = true then x else y) := by split <;> rfl
theorem pick_bool' (b x y : Bool) : (if b = false then PV.bool x else PV.bool y) = PV.bool (if b = false then x else y) := by split <;> rfl
theorem ite_or (b x : Bool) : (if b = true then true else x) = (b || x) := by cases b <;> rfl
theorem ite_and (b x : Bool) : (if b = true then x else false) = (b && x) := by cases b <;> rfl
theorem ite_and' (b x : Bool) : (if b = false then x else false) = (!b && x) := by cases b <;> rfl
theorem ite_or' (b x : Bool) : (if b = false then x else true) = (b || x) := by cases b <;> rfl
theorem ite_gt (b : Bool) (x y z : PV) : (if b = true then (if b = true then x else y) else z) = if b = true then x else z := by cases b <;> rfl
theorem ite_gf (b : Bool) (x y z : PV) : (if b = true then z else (if b = false then x else y)) = if b = true then z else x := by cases b <;> rfl
theorem argEnv_zero (a : PV) (as : List PV) : argEnv (a :: as) 0 = a := rfl
theorem argEnv_succ (a : PV) (as : List PV) (n : Nat) : argEnv (a :: as) (n + 1) = argEnv as n := rfl
theorem argEnv_nil (n : Nat) : argEnv [] n = .tup [] := rfl
theorem put_env (s : St) (d : Nat) (v : PV) : (s.put (some d) v).env = upd s.env d v := rfl
theorem put_none (s : St) (v : PV) : s.put none v = s := rfl
theorem put_Hs (s : St) (d : Option Nat) (v : PV) : (s.put d v).H = s.H := put_H'
theorem env_mk (e : Nat → PV) (H : Hp) : (St.mk e H).env = e := rfl
theorem H_mk (e : Nat → PV) (H : Hp) : (St.mk e H).H = H := rfl
attribute [go_sem] evo ofValue ofCell put_env put_none put_Hs env_mk H_mk upd_apply argEnv_zero argEnv_succ argEnv_nil strCmp pvUn pvConv pick_bool pick_bool' ite_or ite_and ite_and' ite_or' ite_gt ite_gf
  PV.cells rowOf ownRow boundOf pvMinMax isEff fillP splice closedB closedL scalarB scalarL closedL_eq scalarL_eq resVal resOne one itemsOf PV.isDef PV.isCell PV.isAgg setC
end Go.Proofs.Ythdgdngdfijfhaa
namespace Go.Proofs.Ythdgdngdfijfhaa
open Go.RowKit
set_option linter.unusedVariables false
set_option linter.unusedSimpArgs false
def kindT (P : Program) (t : TypeId) : Option Bool :=
  match P.underlying t with
  | some (.struct _) | some (.array _ _) => some true
  | some _ => some false
  | none => none
def fieldP (P : Program) (t : TypeId) (f : Nat) : Option (TypeId × Nat) :=
  match P.underlying t with
  | some (.struct fs) => (fs[f]?).map fun fd => (fd.type, fd.offset)
  | _ => none
def structT (P : Program) (t : TypeId) : Bool :=
  match P.underlying t with
  | some (.struct _) => true
  | _ => false
def placeT (P : Program) (t : TypeId) (i : Nat) : Option (Nat × Nat) := (fieldP P t i).map fun q => (q.2, P.cellsOf q.1)
section
variable {zb : Bool} {P : Program} {s : St}
theorem loadCs_kind (t : TypeId) (cs : List PV) (off : Nat) :
    loadCs P t cs off = match kindT P t with
      | some true => if off + P.cellsOf t ≤ cs.length then some (.agg ((cs.drop off).take (P.cellsOf t))) else none
      | some false => cs[off]?
      | none => none := by
  unfold loadCs kindT
  cases h : P.underlying t with
  | none => rfl
  | some d => cases d <;> rfl
theorem opVal_field (t : TypeId) (x : Operand) (f : Nat) : opVal P s (.field t x f) = match evo s x with
    | .agg cs => (fieldP P t f).bind fun q => loadCs P q.1 cs q.2
    | _ => none := by
  show (match evo s x with
    | .agg cs => match P.underlying t with
      | some (.struct fs) => (fs[f]?).bind fun fd => loadCs P fd.type cs fd.offset
      | _ => none
    | _ => none) = _
  split
  · unfold fieldP
    split
    · rename_i fs h; cases fs[f]? <;> rfl
    · rfl
  · rfl
theorem opVal_fieldAddr (t : TypeId) (x : Operand) (f : Nat) : opVal P s (.fieldAddr t x f) = (fieldP P t f).bind fun q => if P.cellsOf q.1 = 0 then none else
      match evo s x with
      | .ref l sz i off => some (.ref l sz i (off + q.2))
      | .cptr cs => if q.2 ≤ cs.length then some (.cptr (cs.drop q.2)) else none
      | _ => none := by
  simp only [opVal]
  unfold fieldP
  cases P.underlying t with
  | none => rfl
  | some d =>
    cases d <;> first | rfl | skip
    rename_i fs
    cases h : fs[f]? <;> simp only [h] <;> rfl
theorem opVal_build (t : TypeId) (parts : Array (Nat × Operand)) (hs : structT P t = true) (hg : goodT P t = true) : opVal P s (.build t parts) =
    (tzero P t).bind fun z => (fillP (placeT P t) z.cells (parts.toList.map fun q => (q.1, evo s q.2))).map .agg := by
  unfold structT at hs
  split at hs
  · rename_i fs h
    simp only [opVal]
    have hp : placeT P t = fun i => (fs[i]?).map fun f : Field => (f.offset, P.cellsOf f.type) := by
      funext i; unfold placeT fieldP; rw [h]; show Option.map _ (Option.map _ _) = _; rw [Option.map_map]; rfl
    rw [h, hp]
    simp only [hg]
    rfl
  · cases hs
theorem opVal_move (x : Operand) : opVal P s (.move x) = some (evo s x) := rfl
theorem opVal_assign (x : Operand) : opVal P s (.assign x) = some (evo s x) := rfl
theorem opVal_pick (c a b : Operand) : opVal P s (.pick c a b) = match evo s c with
    | .bool t => some (if t = true then evo s a else evo s b)
    | _ => none := rfl
theorem opVal_binOp (op : BinOp) (t : TypeId) (x y : Operand) (u : TypeId) : opVal P s (.binOp op t x y u) = pvBin P op t (evo s x) (evo s y) := rfl
theorem opVal_unOp (op : UnOp) (t : TypeId) (x : Operand) : opVal P s (.unOp op t x) = pvUn op (evo s x) := rfl
theorem opVal_convert (a b : TypeId) (x : Operand) : opVal P s (.convert a b x) = match pvConv P a b (evo s x) with
    | some p => some p
    | none => pvConvB P a b (evo s x) := rfl
theorem opVal_extract (x : Operand) (i : Nat) : opVal P s (.extract x i) = match evo s x with
    | .tup vs => vs[i]?
    | _ => none := rfl
theorem opVal_func (f : FuncId) (caps : Array Operand) : opVal P s (.makeFunc (.func f) #[] caps) = some (.fn f (caps.toList.map (evo s))) := rfl
theorem opVal_bfunc (f : FuncId) (x : Operand) : opVal P s (.makeFunc (.func f) #[x] #[]) = some (.bfn f [evo s x]) := rfl
theorem opVal_load (t : TypeId) (x : Operand) : opVal P s (.load t x) = match evo s x with
    | .ref l sz i off => (rowOf s.H l sz).bind fun xs => (xs[i]?).bind fun x => loadCs P t x.cells off
    | .cptr cs => loadCs P t cs 0
    | _ => none := rfl
def widthB (n : Nat) (xs : List PV) : Bool := xs.all fun x => x.cells.length == n
theorem pvSlice_eq (t : TypeId) (x : PV) (lo hi mx : Option Operand) : pvSlice P s t x lo hi mx = match P.underlying t, x with
  | some .string, .str l =>
    (boundOf s 0 lo).bind fun a => (boundOf s l.length hi).bind fun b =>
      if mx.isNone = true ∧ 0 ≤ a ∧ a ≤ b ∧ b ≤ l.length then some (.str ((l.take b.toNat).drop a.toNat)) else none
  | some (.slice e), .list k xs =>
    (boundOf s 0 lo).bind fun a => (boundOf s xs.length hi).bind fun b =>
      match mx with
      | none => if 0 ≤ a ∧ a ≤ b ∧ b ≤ xs.length ∧ widthB (P.cellsOf e) xs = true ∧ P.cellsOf e ≠ 0 then some (.list (sliceK k xs) ((xs.take b.toNat).drop a.toNat)) else none
      | some m => match evo s m with
        | .int _ c => if 0 ≤ a ∧ a ≤ b ∧ b = c ∧ b ≤ xs.length ∧ widthB (P.cellsOf e) xs = true ∧ hi.isSome = true ∧ P.cellsOf e ≠ 0 then some (.list .full ((xs.take b.toNat).drop a.toNat)) else none
        | _ => none
  | some (.slice e), .arr l sz lo' len =>
    (boundOf s 0 lo).bind fun a => (boundOf s len hi).bind fun b =>
      if mx.isNone = true ∧ 0 ≤ a ∧ a ≤ b ∧ b ≤ len ∧ sz = P.cellsOf e ∧ P.cellsOf e ≠ 0 then some (.arr l sz (lo' + a.toNat) (b - a).toNat) else none
  | _, _ => none := rfl
theorem width_map {α : Type} {n : Nat} {e : α → PV} (he : ∀ x, (e x).cells.length = n) (xs : List α) : widthB n (xs.map e) = true := by
  unfold widthB; rw [List.all_map, List.all_eq_true]; intro x _; simp [he]
theorem opVal_slice (t : TypeId) (x : Operand) (lo hi mx : Option Operand) : opVal P s (.slice t x lo hi mx) = pvSlice P s t (evo s x) lo hi mx := rfl
theorem opVal_len (x : Operand) (t : TypeId) (ts : Array TypeId) : opVal P s (.call ⟨.builtin .len, #[x], #[t]⟩) = match P.underlying t, evo s x with
      | some .string, .str l => some (.int .i64 (l.length : Int))
      | some (.slice _), .list _ xs => some (.int .i64 (xs.length : Int))
      | some (.slice _), .arr _ _ _ len => some (.int .i64 (len : Int))
      | _, _ => none := rfl
theorem opVal_index (t : TypeId) (x ix : Operand) : opVal P s (.index t x ix) = match evo s x, evo s ix with
    | .str l, .int _ n => match P.underlying t with
      | some .string => if 0 ≤ n then (l[n.toNat]?).map fun b => .int .u8 (b.toNat : Int) else none
      | _ => none
    | .agg cs, .int _ n => match P.underlying t with
      | some (.array len e) => if 0 ≤ n ∧ n < len then loadCs P e cs (n.toNat * P.cellsOf e) else none
      | _ => none
    | _, _ => none := rfl
theorem opVal_indexAddr (t : TypeId) (x ix : Operand) : opVal P s (.indexAddr t x ix) = match evo s ix with
    | .int _ n => match P.underlying t, evo s x with
      | some (.slice e), .list _ xs => if 0 ≤ n ∧ n < xs.length then (xs[n.toNat]?).bind fun x => if x.cells.length = P.cellsOf e ∧ P.cellsOf e ≠ 0 then some (.cptr x.cells) else none else none
      | some (.slice e), .arr l sz lo len => if 0 ≤ n ∧ n < len ∧ sz = P.cellsOf e ∧ P.cellsOf e ≠ 0 then some (.ref l sz (lo + n.toNat) 0) else none
      | some (.array len e), .ref l sz i off => if 0 ≤ n ∧ n < len ∧ P.cellsOf e ≠ 0 then some (.ref l sz i (off + n.toNat * P.cellsOf e)) else none
      | some (.array len e), .cptr cs => if 0 ≤ n ∧ n < len ∧ n.toNat * P.cellsOf e ≤ cs.length ∧ P.cellsOf e ≠ 0 then some (.cptr (cs.drop (n.toNat * P.cellsOf e))) else none
      | _, _ => none
    | _ => none := rfl
theorem opVal_buildSlice (t : TypeId) (len : Nat) (parts : Array (Nat × Operand)) : opVal P s (.buildSlice t len parts) = match P.underlying t with
    | some (.slice e) =>
      if parts.toList.map (·.1) = List.range len ∧ (parts.toList.map fun q => evo s q.2).all (fun v => v.isDef && v.cells.length == P.cellsOf e) = true ∧ len * P.cellsOf e ≤ 16777216 ∧ (tzero P e).isSome = true then
        some (.list .full (parts.toList.map fun q => evo s q.2)) else none
    | _ => none := rfl
theorem opVal_nilCheck (x : Operand) : opVal P s (.nilCheck x) = match evo s x with
    | .ref l sz i off => some (.ref l sz i off)
    | .cptr cs => some (.cptr cs)
    | _ => none := rfl
theorem opVal_iface (t : TypeId) (x : Operand) : opVal P s (.makeInterface t x) = if P.concrete t = true then some (.iface t (evo s x)) else none := rfl
theorem opVal_max (x y : Operand) (ts : Array TypeId) : opVal P s (.call ⟨.builtin .max, #[x, y], ts⟩) = pvMinMax true [evo s x, evo s y] := rfl
theorem opVal_min (x y : Operand) (ts : Array TypeId) : opVal P s (.call ⟨.builtin .min, #[x, y], ts⟩) = pvMinMax false [evo s x, evo s y] := rfl
section
variable {t : TypeId} {k k' : IntKind} {a b : Int} {p q : Bool} {x y : List UInt8} {xs ys : List PV} {op : BinOp}
theorem pv_add : pvBin P .add t (.int k a) (.int k b) = some (.int k (k.wrap (a + b))) := by simp only [pvBin, intBin, if_true]
theorem pv_sub : pvBin P .sub t (.int k a) (.int k b) = some (.int k (k.wrap (a - b))) := by simp only [pvBin, intBin, if_true]
theorem pv_mul : pvBin P .mul t (.int k a) (.int k b) = some (.int k (k.wrap (a * b))) := by simp only [pvBin, intBin, if_true]
theorem pv_quo : pvBin P .quo t (.int k a) (.int k b) = if b = 0 then none else some (.int k (k.wrap (a.tdiv b))) := by simp only [pvBin, intBin, if_true]
theorem pv_rem : pvBin P .rem t (.int k a) (.int k b) = if b = 0 then none else some (.int k (a.tmod b)) := by simp only [pvBin, intBin, if_true]
theorem pv_eql : pvBin P .eql t (.int k a) (.int k b) = some (.bool (decide (a = b))) := by simp only [pvBin, intBin, intCmpB, if_true, Option.map_some, ne_eq]
theorem pv_neq : pvBin P .neq t (.int k a) (.int k b) = some (.bool (decide (¬ a = b))) := by simp only [pvBin, intBin, intCmpB, if_true, Option.map_some, ne_eq]
theorem pv_lss : pvBin P .lss t (.int k a) (.int k b) = some (.bool (decide (a < b))) := by simp only [pvBin, intBin, intCmpB, if_true, Option.map_some, ne_eq]
theorem pv_leq : pvBin P .leq t (.int k a) (.int k b) = some (.bool (decide (a ≤ b))) := by simp only [pvBin, intBin, intCmpB, if_true, Option.map_some, ne_eq]
theorem pv_gtr : pvBin P .gtr t (.int k a) (.int k b) = some (.bool (decide (b < a))) := by simp only [pvBin, intBin, intCmpB, if_true, Option.map_some, ne_eq]
theorem pv_geq : pvBin P .geq t (.int k a) (.int k b) = some (.bool (decide (b ≤ a))) := by simp only [pvBin, intBin, intCmpB, if_true, Option.map_some, ne_eq]
theorem pv_shl : pvBin P .shl t (.int k a) (.int k' b) = if b < 0 then none else some (.int k (k.wrap (a * 2 ^ (min b.toNat k.bits)))) := rfl
theorem pv_shr : pvBin P .shr t (.int k a) (.int k' b) = if b < 0 then none else some (.int k (a.fdiv (2 ^ (min b.toNat k.bits)))) := rfl
theorem pv_str : pvBin P op t (.str x) (.str y) = strCmp op x y := rfl
theorem pv_boolE : P.underlying t = some .bool → pvBin P .eql t (.bool p) (.bool q) = some (.bool (p == q)) := fun h => by simp only [pvBin, h]
theorem pv_boolN : P.underlying t = some .bool → pvBin P .neq t (.bool p) (.bool q) = some (.bool (!(p == q))) := fun h => by simp only [pvBin, h]
theorem pv_agg : pvBin P op t (.agg xs) (.agg ys) = match flatEq P t with
    | some ks => if xs.map PV.ck = ks.map some ∧ ys.map PV.ck = ks.map some then
        match op with
        | .eql => (cellsEq xs ys).map fun b => .bool b
        | .neq => (cellsEq xs ys).map fun b => .bool (!b)
        | _ => none
      else none
    | none => none := rfl
end
attribute [go_sem] pv_add pv_sub pv_mul pv_quo pv_rem pv_eql pv_neq pv_lss pv_leq pv_gtr pv_geq pv_shl pv_shr pv_str pv_boolE pv_boolN pv_agg
section
variable {ops : Array Oper} {K : St → Prop} {rest : List Oper} {dst : Option Tmp} {ty : TypeId} {pos : String} {af : Array Edge}
theorem fresh_ne {H : Hp} {l : Lab} (h : H l = none) (l' : Lab) (hs : (H l').isSome = true) : (l' = l) = False ∧ (l = l') = False := by
  have : l' ≠ l := fun e => by rw [e, h] at hs; cases hs
  exact ⟨eq_false this, eq_false (fun e => this e.symm)⟩
theorem t_box {t : TypeId} {x : Operand} {v : PV} {cs : List PV} (hx : evo s x = v) (hd : v.isDef = true) (hv : v.cells = cs) (h : Tops P ops rest (s.put dst (.cptr cs)) K) : Tops P ops (⟨dst, .box t x, ty, pos, af, none⟩ :: rest) s K :=
  t_eff rfl ⟨by rw [hx]; exact hd, .inl (by rw [hx, hv]; exact h)⟩
theorem t_alloc {t : TypeId} {z : PV} {n : Nat} (hz : tzero P t = some z) (hd : z.isDef = true) (hn : z.cells.length = n) (h : ∀ l, s.H l = none → (∀ l', (s.H l').isSome = true → (l' = l) = False ∧ (l = l') = False) → Tops P ops rest ((St.mk s.env (upd s.H l (some (.row true n [z])))).put dst (.ref l n 0 0)) K) : Tops P ops (⟨dst, .alloc t, ty, pos, af, none⟩ :: rest) s K :=
  t_eff rfl ⟨z, hz, hd, fun l _ hl => .inl (by rw [hn]; exact h l hl (fresh_ne hl))⟩
theorem t_allocT {t : TypeId} {r : List PV} {n : Nat} (hz : tzero P t = some (.agg (.nilp :: r))) (hn : r.length + 1 = n) (h : ∀ b, s.H (.real b) = none → (∀ l', (s.H l').isSome = true → (l' = .real b) = False ∧ (.real b = l') = False) → Tops P ops rest ((St.mk s.env (upd s.H (.real b) (some (.row true n [.agg (.tagp false b t n :: r)])))).put dst (.ref (.real b) n 0 0)) K) : Tops P ops (⟨dst, .alloc t, ty, pos, af, none⟩ :: rest) s K :=
  t_eff rfl ⟨_, hz, rfl, fun l hg hl => .inr (by
    cases l with
    | real b =>
      have := h b hl (fresh_ne hl)
      subst hn
      exact this
    | ghost b => cases hg)⟩
theorem t_boxL {t : TypeId} {x : Operand} {v : PV} {n : Nat} (hx : evo s x = v) (hd : v.isDef = true) (hn : v.cells.length = n) (h : ∀ l, s.H l = none → (∀ l', (s.H l').isSome = true → (l' = l) = False ∧ (l = l') = False) → Tops P ops rest ((St.mk s.env (upd s.H l (some (.row true n [v])))).put dst (.ref l n 0 0)) K) : Tops P ops (⟨dst, .box t x, ty, pos, af, none⟩ :: rest) s K :=
  t_eff rfl ⟨by rw [hx]; exact hd, .inr fun l hl => by rw [hx, hn]; exact h l hl (fresh_ne hl)⟩
theorem t_store {t : TypeId} {a x : Operand} {l : Lab} {sz i off : Nat} {xs xs' : List PV} {e v : PV} (ha : evo s a = .ref l sz i off) (hr : ownRow s.H l sz = some xs) (hi : xs[i]? = some e) (hx : evo s x = v)
    (hd : (v.isDef && v.cells.all PV.isCell && v.cells.length == P.cellsOf t && P.cellsOf t != 0 && decide (off + P.cellsOf t ≤ sz) && (e.isAgg || !v.isAgg)) = true) (hs : xs.set i (setC e off v) = xs')
    (h : Tops P ops rest ((St.mk s.env (upd s.H l (some (.row true sz xs')))).put dst (.tup [])) K) : Tops P ops (⟨dst, .store t a x, ty, pos, af, none⟩ :: rest) s K := by
  simp only [Bool.and_eq_true, beq_iff_eq, bne_iff_ne, decide_eq_true_eq, Bool.or_eq_true, Bool.not_eq_true'] at hd
  obtain ⟨⟨⟨⟨⟨h1, h2⟩, h3⟩, h4⟩, h5⟩, h6⟩ := hd
  refine t_eff rfl ⟨rfl, l, sz, i, off, xs, e, ha, hr, hi, ?_⟩
  rw [hx]
  exact ⟨h1, h2, h3, h4, h5, h6, by rw [hs]; exact h⟩
theorem t_callS {g : Operand} {args : Array Operand} {ts : Array TypeId} {f : Nat} {caps as as' : List PV} {r : PV} (hg : evo s g = .fn f caps) (ha : args.toList.map (evo s) ++ caps = as)
    (hn : as.mapM (norm false (restr [] s.H) 8) = some as') (hp : PPure P f as' r) (h : Tops P ops rest (s.put dst r) K) : Tops P ops (⟨dst, .call ⟨.value g, args, ts⟩, ty, pos, af, none⟩ :: rest) s K := by
  refine t_call f caps hg ?_
  rw [ha]
  refine callok_frz false 8 [] as' hn r hp ?_
  rw [frz_nil]; exact h
theorem t_callO {g : Operand} {args : Array Operand} {ts : Array TypeId} {f : Nat} {caps as as' : List PV} {r : PV} (hg : evo s g = .fn f caps) (ha : args.toList.map (evo s) ++ caps = as)
    (hn : as.mapM (norm false s.H 8) = some as') (hp : PPure P f as' r) (hs : scalarB r = true) (h : Tops P ops rest (s.put dst r) K) : Tops P ops (⟨dst, .call ⟨.value g, args, ts⟩, ty, pos, af, none⟩ :: rest) s K := by
  refine t_call f caps hg ?_
  rw [ha]
  exact callok_own false 8 as' hn r hs hp h
theorem t_gcallS {g : Operand} {args : Array Operand} {ts : Array TypeId} {j : Nat} {want : Bool} {d : Tmp} {b : Bool} {f : Nat} {caps as : List PV} {r : PV} (hd : (ops[j]?).bind (·.dst) = some d) (hb : s.env d = .bool b)
    (hg : evo s g = .fn f caps) (ha : b = want → args.toList.map (evo s) ++ caps = as) (hc : as.all (closedB false) = true) (hp : b = want → PPure P f as r) (h : Tops P ops rest (s.put dst (if b = want then r else .tup [])) K) :
    Tops P ops (⟨dst, .call ⟨.value g, args, ts⟩, ty, pos, af, some (j, want)⟩ :: rest) s K :=
  t_gcall b f caps r hd hb hg (fun h => by rw [ha h]; exact ⟨false, hc, hp h⟩) h
theorem t_gval2 {op : Op} {j : Nat} {want : Bool} {d : Tmp} {c w b : Bool} {v : PV} (hd : (ops[j]?).bind (·.dst) = some d) (hb : s.env d = if c = w then .bool b else .tup []) (he : isEff op = false) (hc : ∀ g args ts, op ≠ .call ⟨.value g, args, ts⟩)
    (hv : c = w → b = want → opVal P s op = some v) (h : Tops P ops rest (s.put dst (if c = w then (if b = want then v else .tup []) else .tup [])) K) :
    Tops P ops (⟨dst, op, ty, pos, af, some (j, want)⟩ :: rest) s K := by
  by_cases hw : c = w
  · rw [if_pos hw] at hb h
    exact t_gval b v hd hb he hc (hv hw) h
  · rw [if_neg hw] at hb h
    exact t_gskip hd hb h
theorem t_gcall2 {g : Operand} {args : Array Operand} {ts : Array TypeId} {j : Nat} {want : Bool} {d : Tmp} {c w b : Bool} {f : Nat} {caps as : List PV} {r : PV} (hd : (ops[j]?).bind (·.dst) = some d) (hb : s.env d = if c = w then .bool b else .tup [])
    (hg : evo s g = .fn f caps) (ha : c = w → b = want → args.toList.map (evo s) ++ caps = as) (hc : as.all (closedB false) = true) (hp : c = w → b = want → PPure P f as r)
    (h : Tops P ops rest (s.put dst (if c = w then (if b = want then r else .tup []) else .tup [])) K) :
    Tops P ops (⟨dst, .call ⟨.value g, args, ts⟩, ty, pos, af, some (j, want)⟩ :: rest) s K := by
  by_cases hw : c = w
  · rw [if_pos hw] at hb h
    exact t_gcallS hd hb hg (ha hw) hc (hp hw) h
  · rw [if_neg hw] at hb h
    exact t_gskip hd hb h
section
variable {Hr : Hp} {fl : List Bool}
theorem m_gskip {op : Op} {j : Nat} {want : Bool} {d : Tmp} (hf : fl.headD false = false) (hd : (ops[j]?).bind (·.dst) = some d) (hb : s.env d = .tup []) (h : TopsDm P zb ops rest fl.tail Hr (s.put dst (.tup [])) K) :
    TopsDm P zb ops (⟨dst, op, ty, pos, af, some (j, want)⟩ :: rest) fl Hr s K := by
  refine m_false hf ?_
  show Tguard _ _ _ _ _
  unfold Tguard
  simp only [hd, hb]
  exact h
theorem m_callS {g : Operand} {args : Array Operand} {ts : Array TypeId} {f : Nat} {caps as as' : List PV} {r : PV} (hf : fl.headD false = false) (hg : evo s g = .fn f caps) (ha : args.toList.map (evo s) ++ caps = as)
    (hn : as.mapM (norm false (restr [] Hr) 8) = some as') (hp : PPure P f as' r) (h : TopsDm P zb ops rest fl.tail Hr (s.put dst r) K) : TopsDm P zb ops (⟨dst, .call ⟨.value g, args, ts⟩, ty, pos, af, none⟩ :: rest) fl Hr s K := by
  refine m_call f caps hf hg ?_
  rw [ha]
  exact .inr ⟨false, 8, as', r, hn, hp, h⟩
theorem m_gcallS {g : Operand} {args : Array Operand} {ts : Array TypeId} {j : Nat} {want : Bool} {d : Tmp} {b : Bool} {f : Nat} {caps as : List PV} {r : PV} (hf : fl.headD false = false) (hd : (ops[j]?).bind (·.dst) = some d) (hb : s.env d = .bool b)
    (hg : evo s g = .fn f caps) (ha : b = want → args.toList.map (evo s) ++ caps = as) (hc : as.all (closedB false) = true) (hp : b = want → PPure P f as r) (h : TopsDm P zb ops rest fl.tail Hr (s.put dst (if b = want then r else .tup [])) K) :
    TopsDm P zb ops (⟨dst, .call ⟨.value g, args, ts⟩, ty, pos, af, some (j, want)⟩ :: rest) fl Hr s K :=
  m_gcall b f caps r hf hd hb hg (fun h => by rw [ha h]; exact ⟨false, hc, hp h⟩) h
theorem m_gval2 {op : Op} {j : Nat} {want : Bool} {d : Tmp} {c w b : Bool} {v : PV} (hf : fl.headD false = false) (hd : (ops[j]?).bind (·.dst) = some d) (hb : s.env d = if c = w then .bool b else .tup []) (he : isEff op = false) (hc : ∀ g args ts, op ≠ .call ⟨.value g, args, ts⟩)
    (hv : c = w → b = want → opVal P { s with H := Hr } op = some v) (h : TopsDm P zb ops rest fl.tail Hr (s.put dst (if c = w then (if b = want then v else .tup []) else .tup [])) K) :
    TopsDm P zb ops (⟨dst, op, ty, pos, af, some (j, want)⟩ :: rest) fl Hr s K := by
  by_cases hw : c = w
  · rw [if_pos hw] at hb h
    exact m_gval b v hf hd hb he hc (hv hw) h
  · rw [if_neg hw] at hb h
    exact m_gskip hf hd hb h
theorem m_gcall2 {g : Operand} {args : Array Operand} {ts : Array TypeId} {j : Nat} {want : Bool} {d : Tmp} {c w b : Bool} {f : Nat} {caps as : List PV} {r : PV} (hf : fl.headD false = false) (hd : (ops[j]?).bind (·.dst) = some d) (hb : s.env d = if c = w then .bool b else .tup [])
    (hg : evo s g = .fn f caps) (ha : c = w → b = want → args.toList.map (evo s) ++ caps = as) (hc : as.all (closedB false) = true) (hp : c = w → b = want → PPure P f as r)
    (h : TopsDm P zb ops rest fl.tail Hr (s.put dst (if c = w then (if b = want then r else .tup []) else .tup [])) K) :
    TopsDm P zb ops (⟨dst, .call ⟨.value g, args, ts⟩, ty, pos, af, some (j, want)⟩ :: rest) fl Hr s K := by
  by_cases hw : c = w
  · rw [if_pos hw] at hb h
    exact m_gcallS hf hd hb hg (ha hw) hc (hp hw) h
  · rw [if_neg hw] at hb h
    exact m_gskip hf hd hb h
end
end
theorem pend {fn : Func} {r v : PV} {rs : Array ResultVar} (hr : fn.results = rs) (hv : resVal P rs s = some v) (hn : norm false s.H 8 v = some r) : PureEnd P fn r .ret s :=
  ⟨.inr rfl, v, false, 8, by rw [hr]; exact hv, hn⟩
theorem pendN {fn : Func} {r v : PV} {rs : Array ResultVar} (hr : fn.results = rs) (hv : resVal P rs s = some v) (hn : norm false s.H 8 v = some r) : PureEnd P fn r .normal s :=
  ⟨.inl rfl, v, false, 8, by rw [hr]; exact hv, hn⟩
theorem norm8 (k : Bool) (H : Hp) (v : PV) : norm k H 8 v = if closedB k v = true then some v else normStep k H (norm k H 7) v := rfl
theorem norm7 (k : Bool) (H : Hp) (v : PV) : norm k H 7 v = if closedB k v = true then some v else normStep k H (norm k H 6) v := rfl
theorem norm6 (k : Bool) (H : Hp) (v : PV) : norm k H 6 v = if closedB k v = true then some v else normStep k H (norm k H 5) v := rfl
theorem norm5 (k : Bool) (H : Hp) (v : PV) : norm k H 5 v = if closedB k v = true then some v else normStep k H (norm k H 4) v := rfl
theorem norm4 (k : Bool) (H : Hp) (v : PV) : norm k H 4 v = if closedB k v = true then some v else normStep k H (norm k H 3) v := rfl
end
theorem lk1 : (LK.full == LK.any) = false := rfl
theorem lk2 : (LK.nil == LK.any) = false := rfl
theorem lk3 : (LK.any == LK.any) = true := rfl
theorem lk4 : (LK.made == LK.any) = false := rfl
theorem lk5 : LK.full.loose = false := rfl
theorem lk6 : LK.nil.loose = false := rfl
theorem sk1 (xs : List PV) : sliceK .any xs = .any := by cases xs <;> rfl
theorem sk2 (xs : List PV) : sliceK .made xs = .any := by cases xs <;> rfl
theorem sk3 : sliceK .full [] = .full := rfl
theorem sk4 : sliceK .nil [] = .full := rfl
theorem sk5 (k : LK) (x : PV) (xs : List PV) : sliceK k (x :: xs) = .any := by cases k <;> rfl
attribute [go_sem] sk1 sk2 sk3 sk4 sk5 lk1 lk2 lk3 lk4 lk5 lk6
attribute [go_sem] opVal_build pvConvB pvSlice_eq opVal_move opVal_assign opVal_pick opVal_binOp opVal_unOp opVal_convert opVal_extract opVal_func opVal_bfunc opVal_load opVal_slice opVal_len opVal_index opVal_indexAddr opVal_buildSlice opVal_iface opVal_nilCheck opVal_max opVal_min loadCs_kind opVal_field opVal_fieldAddr norm8 norm7 norm6 norm5 norm4 normStep placeT
end Go.Proofs.Ythdgdngdfijfhaa
namespace Go.Proofs.Ythdgdngdfijfhaa
open Go.RowKit
set_option linter.unusedVariables false
set_option linter.unusedSimpArgs false
def cellsB (n : Nat) (ys : List PV) : Bool := ys.all fun v => v.cells.length == n && v.cells.all PV.isCell
theorem cells_map {α : Type} {n : Nat} {e : α → PV} (he : ∀ x, ((e x).cells.length == n && (e x).cells.all PV.isCell) = true) (xs : List α) : cellsB n (xs.map e) = true := by
  unfold cellsB; rw [List.all_map, List.all_eq_true]; intro x _; exact he x
theorem cellsB_nil (n : Nat) : cellsB n [] = true := rfl
theorem cellsB_cons (n : Nat) (v : PV) (vs : List PV) : cellsB n (v :: vs) = (v.cells.length == n && v.cells.all PV.isCell && cellsB n vs) := rfl
attribute [go_sem] cellsB_nil cellsB_cons
theorem cellsB_spec {n : Nat} {ys : List PV} (h : cellsB n ys = true) : ∀ v ∈ ys, v.cells.length = n ∧ v.cells.all PV.isCell = true := by
  intro v hv
  have := List.all_eq_true.1 h v hv
  simpa using this
theorem widthB_spec {n : Nat} {ys : List PV} (h : widthB n ys = true) : ∀ v ∈ ys, v.cells.length = n := by
  intro v hv
  have := List.all_eq_true.1 h v hv
  simpa using this
def appB (P : Program) (t0 t1 e : TypeId) : Bool :=
  (match P.underlying t0 with
    | some (.slice e') => e' == e
    | _ => false) && srcT P t1 && ((tzero P e).map (fun z => z.cells.length) == some (P.cellsOf e)) && decide (0 < P.cellsOf e) && decide (0 < P.bytesOf e)
theorem appB_spec {P : Program} {t0 t1 e : TypeId} (h : appB P t0 t1 e = true) :
    P.underlying t0 = some (.slice e) ∧ srcT P t1 = true ∧ (tzero P e).map (fun z => z.cells.length) = some (P.cellsOf e) ∧ 0 < P.cellsOf e ∧ 0 < P.bytesOf e := by
  unfold appB at h
  simp only [Bool.and_eq_true, beq_iff_eq, decide_eq_true_eq] at h
  obtain ⟨⟨⟨⟨h1, h2⟩, h3⟩, h4⟩, h5⟩ := h
  refine ⟨?_, h2, h3, h4, h5⟩
  split at h1
  · rename_i e' h; rw [h]; simp only [beq_iff_eq] at h1; rw [h1]
  · cases h1
section
variable {zb : Bool} {P : Program} {s : St} {ops : Array Oper} {K : St → Prop} {rest : List Oper} {dst : Option Tmp} {ty : TypeId} {pos : String} {af : Array Edge}
theorem t_append {x y : Operand} {t0 t1 e : TypeId} {k : LK} {xs ys : List PV} {n : Nat} (happ : appB P t0 t1 e = true) (hn : P.cellsOf e = n) (hx : evo s x = .list k xs) (hy : itemsOf s.H (evo s y) = some ys)
    (hk : k.loose = false) (hxw : widthB n xs = true) (hw : cellsB n ys = true) (hroom : (xs.length + ys.length) * P.bytesOf e ≤ roomB)
    (h0 : ys = [] → Tops P ops rest (s.put dst (.list k xs)) K)
    (h1 : ys ≠ [] → ∀ l, s.H l = none → (∀ l', (s.H l').isSome = true → (l' = l) = False ∧ (l = l') = False) → Tops P ops rest ((St.mk s.env (upd s.H l (some (.row true n (xs ++ ys))))).put dst (.arr l n 0 (xs.length + ys.length))) K) :
    Tops P ops (⟨dst, .call ⟨.builtin .append, #[x, y], #[t0, t1]⟩, ty, pos, af, none⟩ :: rest) s K := by
  obtain ⟨hu, hsrc, hz, hc, hb⟩ := appB_spec happ
  subst hn
  have hk' := hk
  refine t_eff rfl ⟨t0, t1, x, y, e, rfl, rfl, hu, hsrc, ys, hy, cellsB_spec hw, hz, hc, hb, ?_⟩
  rw [hx]
  refine ⟨hk', widthB_spec hxw, hroom, ?_⟩
  split
  · rename_i h; exact h0 h
  · rename_i h; exact fun l hl => h1 h l hl (fresh_ne hl)
theorem t_appendA {x y : Operand} {t0 t1 e : TypeId} {l : Lab} {len : Nat} {xs ys : List PV} {n : Nat} (happ : appB P t0 t1 e = true) (hn : P.cellsOf e = n) (hx : evo s x = .arr l n 0 len) (hy : itemsOf s.H (evo s y) = some ys)
    (hr : ownRow s.H l n = some xs) (hlen : len = xs.length) (hw : cellsB n ys = true) (hroom : (len + ys.length) * P.bytesOf e ≤ roomB)
    (h1 : ∀ l', (l' = l ∨ s.H l' = none) → Tops P ops rest ((St.mk s.env (upd (upd s.H l none) l' (some (.row true n (xs ++ ys))))).put dst (.arr l' n 0 (len + ys.length))) K) :
    Tops P ops (⟨dst, .call ⟨.builtin .append, #[x, y], #[t0, t1]⟩, ty, pos, af, none⟩ :: rest) s K := by
  obtain ⟨hu, hsrc, hz, hc, hb⟩ := appB_spec happ
  refine t_eff rfl ⟨t0, t1, x, y, e, rfl, rfl, hu, hsrc, ys, hy, fun v hv => by rw [hn]; exact cellsB_spec hw v hv, hz, hc, hb, ?_⟩
  rw [hx]
  have e : xs.take len = xs := by rw [hlen, List.take_length]
  refine ⟨rfl, rfl, hn.symm, hroom, xs, hr, by omega, ?_, fun l' hl' => .inr ?_⟩
  · have := h1 l (.inl rfl)
    rw [upd_twice] at this
    rw [e]; exact this
  · rw [e]; exact h1 l' (.inr hl')
theorem t_appendB {x y : Operand} {t0 t1 e : TypeId} {l : Lab} {len : Nat} {xs ys : List PV} {n : Nat} (happ : appB P t0 t1 e = true) (hn : P.cellsOf e = n) (hx : evo s x = .arr l n 0 len) (hy : itemsOf s.H (evo s y) = some ys)
    (hr : ownRow s.H l n = some xs) (hlen : len ≤ xs.length) (hw : cellsB n ys = true) (hroom : (len + ys.length) * P.bytesOf e ≤ roomB)
    (h1 : ∀ l', (l' = l ∨ s.H l' = none) → Tops P ops rest ((St.mk s.env (upd (upd s.H l none) l' (some (.row true n (xs.take len ++ ys))))).put dst (.arr l' n 0 (len + ys.length))) K) :
    Tops P ops (⟨dst, .call ⟨.builtin .append, #[x, y], #[t0, t1]⟩, ty, pos, af, none⟩ :: rest) s K := by
  obtain ⟨hu, hsrc, hz, hc, hb⟩ := appB_spec happ
  refine t_eff rfl ⟨t0, t1, x, y, e, rfl, rfl, hu, hsrc, ys, hy, fun v hv => by rw [hn]; exact cellsB_spec hw v hv, hz, hc, hb, ?_⟩
  rw [hx]
  refine ⟨rfl, rfl, hn.symm, hroom, xs, hr, hlen, ?_, fun l' hl' => .inr (h1 l' (.inr hl'))⟩
  have := h1 l (.inl rfl)
  rw [upd_twice] at this
  exact this
def Acc (H : Hp) (v : PV) (n : Nat) (xs : List PV) : Prop := (xs = [] ∧ ∃ k, k.loose = false ∧ v = .list k []) ∨ ∃ l, v = .arr l n 0 xs.length ∧ H l = some (.row true n xs)
theorem Acc.nil (H : Hp) (n : Nat) : Acc H (.list .nil []) n [] := .inl ⟨rfl, .nil, rfl, rfl⟩
theorem t_appendG {x y : Operand} {t0 t1 e : TypeId} {v : PV} {xs ys : List PV} {n : Nat} (happ : appB P t0 t1 e = true) (hn : P.cellsOf e = n) (hx : evo s x = v) (hacc : Acc s.H v n xs) (hy : itemsOf s.H (evo s y) = some ys)
    (hne : ys.isEmpty = false) (hw : cellsB n ys = true) (hroom : (xs.length + ys.length) * P.bytesOf e ≤ roomB)
    (h1 : ∀ u H', Acc H' u n (xs ++ ys) → Tops P ops rest ((St.mk s.env H').put dst u) K) :
    Tops P ops (⟨dst, .call ⟨.builtin .append, #[x, y], #[t0, t1]⟩, ty, pos, af, none⟩ :: rest) s K := by
  rcases hacc with ⟨rfl, k, hk, rfl⟩ | ⟨l, rfl, hl⟩
  · refine t_append happ hn hx hy hk rfl hw (by simpa using hroom) (fun h => by rw [h] at hne; cases hne) (fun _ l hl _ => ?_)
    exact h1 _ _ (.inr ⟨l, by simp, by simp⟩)
  · refine t_appendA happ hn hx hy (by unfold ownRow; rw [hl]; simp) rfl hw hroom (fun l' _ => ?_)
    exact h1 _ _ (.inr ⟨l', by simp, by simp⟩)
def effFl (l : List Oper) : List Bool := l.map fun o => match o.op with
  | .store .. => true
  | .call { callee := .builtin .copy, .. } => true
  | _ => false
theorem top_copy {o : Oper} {x y : Operand} {t0 t1 e : TypeId} {l : Lab} {n lo len : Nat} {xs ys : List PV} {d : Option Tmp} (ho : o = ⟨d, .call ⟨.builtin .copy, #[x, y], #[t0, t1]⟩, ty, pos, af, none⟩) (happ : appB P t0 t1 e = true) (hn : P.cellsOf e = n) (hx : evo s x = .arr l n lo len) (hr : ownRow s.H l n = some xs)
    (hlen : lo + len ≤ xs.length) (hy : itemsOf s.H (evo s y) = some ys) (hw : cellsB n ys = true)
    (h : K ((St.mk s.env (upd s.H l (some (.row true n (splice xs lo (ys.take len)))))).put d (.int .i64 ((min ys.length len : Nat) : Int)))) : Top P o s K := by
  obtain ⟨hu, hsrc, hz, hc, hb⟩ := appB_spec happ
  subst ho
  unfold Top
  simp only [isEff, if_true]
  exact ⟨rfl, t0, t1, x, y, e, rfl, rfl, hu, hsrc, l, n, lo, len, xs, ys, hx, hr, hn.symm, hlen, hy, fun v hv => cellsB_spec hw v hv, by omega, h⟩
theorem t_copy {x y : Operand} {t0 t1 e : TypeId} {l : Lab} {n lo len : Nat} {xs ys : List PV} (happ : appB P t0 t1 e = true) (hn : P.cellsOf e = n) (hx : evo s x = .arr l n lo len) (hr : ownRow s.H l n = some xs)
    (hlen : lo + len ≤ xs.length) (hy : itemsOf s.H (evo s y) = some ys) (hw : cellsB n ys = true)
    (h : Tops P ops rest ((St.mk s.env (upd s.H l (some (.row true n (splice xs lo (ys.take len)))))).put dst (.int .i64 ((min ys.length len : Nat) : Int))) K) :
    Tops P ops (⟨dst, .call ⟨.builtin .copy, #[x, y], #[t0, t1]⟩, ty, pos, af, none⟩ :: rest) s K := by
  show Tguard _ _ _ _ _
  unfold Tguard
  exact top_copy rfl happ hn hx hr hlen hy hw h
theorem t_makeSlice {t e : TypeId} {x y : Operand} {z : PV} {n : Nat} {k k' : IntKind} {a : Int} (hu : P.underlying t = some (.slice e)) (hn : P.cellsOf e = n) (hx : evo s x = .int k a) (hy : evo s y = .int k' a) (hz : tzero P e = some z) (hd : z.isDef = true) (hl : z.cells.length = n)
    (h0 : 0 ≤ a) (hroom : a.toNat * P.bytesOf e ≤ roomB) (h63 : a ≤ 9223372036854775807)
    (h : ∀ l, s.H l = none → (∀ l', (s.H l').isSome = true → (l' = l) = False ∧ (l = l') = False) → Tops P ops rest ((St.mk s.env (upd s.H l (some (.row true n (List.replicate a.toNat z))))).put dst (.arr l n 0 a.toNat)) K) :
    Tops P ops (⟨dst, .makeSlice t x y, ty, pos, af, none⟩ :: rest) s K :=
  t_eff rfl ⟨e, k, k', a, z, hu, hx, hy, hz, hd, by rw [hl, hn], h0, hroom, h63, fun l hl' => by rw [hl]; exact h l hl' (fresh_ne hl')⟩
section
variable {Hr : Hp} {fl : List Bool}
theorem m_store {t : TypeId} {a x : Operand} {l : Lab} {sz i off : Nat} {xs xs' : List PV} {e v : PV} (hf : fl.headD false = true) (ha : evo s a = .ref l sz i off) (hr : ownRow s.H l sz = some xs) (hi : xs[i]? = some e) (hx : evo s x = v)
    (hd : (v.isDef && v.cells.all PV.isCell && v.cells.length == P.cellsOf t && P.cellsOf t != 0 && decide (off + P.cellsOf t ≤ sz) && (e.isAgg || !v.isAgg)) = true) (hs : xs.set i (setC e off v) = xs')
    (h : TopsDm P false ops rest fl.tail (upd s.H l (some (.row true sz xs'))) ((St.mk s.env (upd s.H l (some (.row true sz xs')))).put dst (.tup [])) K) : TopsDm P false ops (⟨dst, .store t a x, ty, pos, af, none⟩ :: rest) fl Hr s K := by
  refine m_trueE hf (fun hc => by simp [userCall] at hc) ?_
  unfold Tguard
  simp only [Bool.and_eq_true, beq_iff_eq, bne_iff_ne, decide_eq_true_eq, Bool.or_eq_true, Bool.not_eq_true'] at hd
  obtain ⟨⟨⟨⟨⟨h1, h2⟩, h3⟩, h4⟩, h5⟩, h6⟩ := hd
  simp only
  unfold Top
  simp only [isEff, if_true]
  refine ⟨rfl, l, sz, i, off, xs, e, ha, hr, hi, ?_⟩
  rw [hx]
  refine ⟨h1, h2, h3, h4, h5, h6, ?_⟩
  rw [hs]
  simp only [put_H']
  exact h
theorem m_append {x y : Operand} {t0 t1 e : TypeId} {k : LK} {xs ys : List PV} {n : Nat} (hf : fl.headD false = false) (happ : appB P t0 t1 e = true) (hn : P.cellsOf e = n) (hx : evo s x = .list k xs) (hy : itemsOf Hr (evo s y) = some ys)
    (hk : k.loose = false) (hxw : widthB n xs = true) (hw : cellsB n ys = true) (hroom : (xs.length + ys.length) * P.bytesOf e ≤ roomB)
    (h0 : ys = [] → TopsDm P zb ops rest fl.tail Hr (s.put dst (.list k xs)) K)
    (h1 : ys ≠ [] → ∀ l, s.H l = none → (∀ l', (s.H l').isSome = true → (l' = l) = False ∧ (l = l') = False) → TopsDm P zb ops rest fl.tail Hr ((St.mk s.env (upd s.H l (some (.row true n (xs ++ ys))))).put dst (.arr l n 0 (xs.length + ys.length))) K) :
    TopsDm P zb ops (⟨dst, .call ⟨.builtin .append, #[x, y], #[t0, t1]⟩, ty, pos, af, none⟩ :: rest) fl Hr s K := by
  obtain ⟨hu, hsrc, hz, hc, hb⟩ := appB_spec happ
  subst hn
  have hk' := hk
  refine m_false hf ?_
  show Tguard _ _ _ _ _
  unfold Tguard
  simp only
  unfold TopQ
  refine ⟨t0, t1, x, y, e, rfl, rfl, hu, hsrc, ys, hy, cellsB_spec hw, hz, hc, hb, .inl ⟨k, xs, hx, hk', widthB_spec hxw, hroom, ?_⟩⟩
  split
  · rename_i h; exact h0 h
  · rename_i h; exact fun l hl => h1 h l hl (fresh_ne hl)
end
end
attribute [go_sem] List.map_cons List.map_nil List.nil_append List.append_nil List.cons_append List.length_cons List.length_nil List.getElem?_cons_zero List.getElem?_cons_succ List.getElem?_nil List.take_succ_cons List.take_zero List.take_nil List.drop_succ_cons List.drop_zero List.drop_nil
attribute [go_sem] List.all_cons List.all_nil List.mapM_cons List.mapM_nil Option.bind_some Option.bind_none Option.map_some Option.map_none Option.bind_eq_bind Option.pure_def Bool.and_true Bool.true_and Bool.and_false Bool.false_and Bool.or_false Bool.false_or
attribute [go_sem] Bool.or_true Bool.true_or Bool.not_not Bool.not_true Bool.not_false if_true if_false and_self and_true true_and ne_eq not_false_eq_true not_true_eq_false implies_true beq_self_eq_true List.getElem?_map
attribute [go_sem] List.length_map List.getElem?_toArray List.size_toArray Nat.zero_le Nat.le_refl Nat.add_zero Nat.zero_add List.isEmpty_nil Int.toNat_natCast decide_true decide_false Bool.false_eq_true Bool.true_eq_false eq_self Int.natCast_nonneg List.all_map
attribute [go_sem] Option.isNone_none Option.isSome_some Option.isSome_none List.range_succ List.range_zero List.take_length List.length_replicate List.set_cons_zero List.set_cons_succ bne_self_eq_false Bool.or_self Bool.and_self
attribute [go_sem] Nat.reduceEqDiff Nat.reduceAdd Nat.reduceMul Nat.reduceLeDiff Nat.reduceLT Nat.reduceBEq Int.reduceNeg reduceIte reduceCtorEq Int.reduceLT Int.reduceLE Int.reduceToNat Int.reduceEq Nat.reduceBNe Nat.reduceSub
attribute [go_sem ←] List.map_take List.map_drop
end Go.Proofs.Ythdgdngdfijfhaa
namespace Go.Proofs.Ythdgdngdfijfhaa
open Go.RowKit
set_option linter.unusedVariables false
set_option linter.unusedSimpArgs false
section
variable {zb : Bool} {P : Program}
theorem topQ_frame {o : Oper} {Hr : Hp} {s : St} {K : St → Prop} (h : TopQ P o Hr s K) : TopQ P o Hr s (fun s' => K s' ∧ Fra o.dst s s') := by
  unfold TopQ at h ⊢
  split at h
  · split at h
    · rcases h with h | ⟨sz, xs, hN, h⟩
      · exact .inl (h.mono fun r h => ⟨h, fun t ht => put_off' ht⟩)
      · exact .inr ⟨sz, xs, hN, fun l hl => ⟨h l hl, fun t ht => put_off ht⟩⟩
    · exact h
  · obtain ⟨z, h1, h2, h⟩ := h
    exact ⟨z, h1, h2, fun l hl => ⟨h l hl, fun t ht => put_off ht⟩⟩
  · exact ⟨h.1, fun l hl => ⟨h.2 l hl, fun t ht => put_off ht⟩⟩
  · obtain ⟨t0, t1, x, y, e, h1, h2, h3, h4, ys, h5, h6, h7, h8, h9, h⟩ := h
    refine ⟨t0, t1, x, y, e, h1, h2, h3, h4, ys, h5, h6, h7, h8, h9, ?_⟩
    rcases h with ⟨k, xs, h10, h11, h12, h13, h⟩ | ⟨l, len, xs, g1, g2, g3, g4, g5, h⟩
    · refine .inl ⟨k, xs, h10, h11, h12, h13, ?_⟩
      split at h
      · rename_i hy; rw [if_pos hy]; exact ⟨h, fun t ht => put_off' ht⟩
      · rename_i hy; rw [if_neg hy]; exact fun l hl => ⟨h l hl, fun t ht => put_off ht⟩
    · exact .inr ⟨l, len, xs, g1, g2, g3, g4, g5, fun l' hl' => ⟨h l' hl', fun t ht => put_off ht⟩⟩
  · obtain ⟨h0, v, hv, h⟩ := h
    exact ⟨h0, v, hv, h, fun t ht => put_off' ht⟩
theorem topQ_mono {o : Oper} {Hr : Hp} {s : St} {K K' : St → Prop} (h : TopQ P o Hr s K) (hk : ∀ s, K s → K' s) : TopQ P o Hr s K' := by
  unfold TopQ at h ⊢
  split at h
  · split at h
    · rcases h with h | ⟨sz, xs, hN, h⟩
      · exact .inl (h.mono fun r h => hk _ h)
      · exact .inr ⟨sz, xs, hN, fun l hl => hk _ (h l hl)⟩
    · exact h
  · obtain ⟨z, h1, h2, h⟩ := h
    exact ⟨z, h1, h2, fun l hl => hk _ (h l hl)⟩
  · exact ⟨h.1, fun l hl => hk _ (h.2 l hl)⟩
  · obtain ⟨t0, t1, x, y, e, h1, h2, h3, h4, ys, h5, h6, h7, h8, h9, h⟩ := h
    refine ⟨t0, t1, x, y, e, h1, h2, h3, h4, ys, h5, h6, h7, h8, h9, ?_⟩
    rcases h with ⟨k, xs, h10, h11, h12, h13, h⟩ | ⟨l, len, xs, g1, g2, g3, g4, g5, h⟩
    · refine .inl ⟨k, xs, h10, h11, h12, h13, ?_⟩
      split at h
      · rename_i hy; rw [if_pos hy]; exact hk _ h
      · rename_i hy; rw [if_neg hy]; exact fun l hl => hk _ (h l hl)
    · exact .inr ⟨l, len, xs, g1, g2, g3, g4, g5, fun l' hl' => hk _ (h l' hl')⟩
  · obtain ⟨h0, v, hv, h⟩ := h
    exact ⟨h0, v, hv, hk _ h⟩
def FraL (l : List Oper) (s s' : St) : Prop := ∀ t, (l.any fun o => o.dst == some t) = false → s'.env t = s.env t
theorem fra_cons {o : Oper} {l : List Oper} {s s1 s2 : St} (h1 : Fra o.dst s s1) (h2 : FraL l s1 s2) : FraL (o :: l) s s2 := by
  intro t ht
  simp only [List.any_cons, Bool.or_eq_false_iff] at ht
  rw [h2 t ht.2, h1 t (by simpa using ht.1)]
theorem fra_put {o : Oper} {s : St} {v : PV} : Fra o.dst s (s.put o.dst v) := fun t ht => put_off' ht
theorem tops_frame {ops : Array Oper} {K : St → Prop} : ∀ (l : List Oper) (s : St), Tops P ops l s K → Tops P ops l s (fun s' => K s' ∧ FraL l s s')
  | [], s, h => ⟨h, fun _ _ => rfl⟩
  | o :: rest, s, h => guard_mono h
      (fun h => top_mono (top_frame h) fun s' h => tops_mono (fun s2 h2 => ⟨h2.1, fra_cons h.2 h2.2⟩) rest s' (tops_frame rest s' h.1))
      (fun h => tops_mono (fun s2 h2 => ⟨h2.1, fra_cons fra_put h2.2⟩) rest _ (tops_frame rest _ h))
theorem topsD_frame {ops : Array Oper} {K : St → Prop} : ∀ (l : List (Oper × Bool)) (Hr : Hp) (s : St), TopsD P zb ops l Hr s K → TopsD P zb ops l Hr s (fun s' => K s' ∧ FraL (l.map (·.1)) s s')
  | [], Hr, s, h => ⟨h, fun _ _ => rfl⟩
  | (o, true) :: rest, Hr, s, h => ⟨h.1, guard_mono h.2
      (fun h => top_mono (top_frame h) fun s' ⟨⟨Hr, h1, hz, h⟩, hf⟩ => ⟨Hr, h1, hz, topsD_mono (fun s2 h2 => ⟨h2.1, fra_cons hf h2.2⟩) rest _ s' (topsD_frame rest _ s' h)⟩)
      (fun ⟨Hr, h1, hz, h⟩ => ⟨Hr, h1, hz, topsD_mono (fun s2 h2 => ⟨h2.1, fra_cons fra_put h2.2⟩) rest _ _ (topsD_frame rest _ _ h)⟩)⟩
  | (o, false) :: rest, Hr, s, h => guard_mono h
      (fun h => topQ_mono (topQ_frame h) fun s' h => topsD_mono (fun s2 h2 => ⟨h2.1, fra_cons h.2 h2.2⟩) rest _ s' (topsD_frame rest _ s' h.1))
      (fun h => topsD_mono (fun s2 h2 => ⟨h2.1, fra_cons fra_put h2.2⟩) rest _ _ (topsD_frame rest _ _ h))
theorem marked_map : ∀ (l : List Oper) (fl : List Bool), (marked l fl).map (·.1) = l
  | [], _ => rfl
  | o :: l, fl => by simp [marked, marked_map l]
theorem T_frame : ∀ (c : Code) (s : St) (Q : X → St → Prop), T P c s Q → T P c s (fun x s' => Q x s' ∧ ∀ t, wrs t c = false → s'.env t = s.env t) := by
  intro c
  induction c with
  | skip => intro s Q h; exact ⟨h, fun _ _ => rfl⟩
  | region id ops draw =>
    intro s Q h
    cases draw with
    | false => exact tops_mono (fun s' h => ⟨h.1, fun t ht => h.2 t ht⟩) _ _ (tops_frame ops.toList s h)
    | true =>
      obtain ⟨z, fl, Hr, hok, hs1, h⟩ := h
      refine ⟨z, fl, Hr, hok, hs1, topsD_mono (fun s' h => ⟨h.1, fun t ht => h.2 t ?_⟩) _ _ _ (topsD_frame _ _ _ h)⟩
      rw [marked_map]; exact ht
  | seq a b iha ihb =>
    intro s Q h
    refine T_mono a s _ _ (fun x s' hx => ?_) (iha s _ h)
    cases x with
    | normal =>
      refine T_mono b s' _ _ (fun x2 s2 h2 => ⟨h2.1, fun t ht => ?_⟩) (ihb s' Q hx.1)
      simp only [wrs, Bool.or_eq_false_iff] at ht
      rw [h2.2 t ht.2, hx.2 t ht.1]
    | exit id => exact ⟨hx.1, fun t ht => hx.2 t (by simp only [wrs, Bool.or_eq_false_iff] at ht; exact ht.1)⟩
    | ret => exact ⟨hx.1, fun t ht => hx.2 t (by simp only [wrs, Bool.or_eq_false_iff] at ht; exact ht.1)⟩
  | cond c a b iha ihb =>
    intro s Q h
    obtain ⟨t, ht, h⟩ := h
    refine ⟨t, ht, ?_⟩
    cases t with
    | true => exact T_mono a s _ _ (fun x s' hx => ⟨hx.1, fun t ht => hx.2 t (by simp only [wrs, Bool.or_eq_false_iff] at ht; exact ht.1)⟩) (iha s Q h)
    | false => exact T_mono b s _ _ (fun x s' hx => ⟨hx.1, fun t ht => hx.2 t (by simp only [wrs, Bool.or_eq_false_iff] at ht; exact ht.2)⟩) (ihb s Q h)
  | block id c ih =>
    intro s Q h
    refine T_mono c s _ _ (fun x s' hx => ?_) (ih s _ h)
    cases x with
    | normal => exact hx
    | exit id' =>
      by_cases e : id' = id
      · simp only [e, if_true] at hx ⊢; exact hx
      · simp only [e, if_false] at hx ⊢; exact hx
    | ret => exact hx
  | loop c ih =>
    intro s Q h
    obtain ⟨k, h⟩ := h
    refine ⟨k, ?_⟩
    induction k generalizing s with
    | zero => exact h
    | succ k ihk =>
      intro N
      obtain ⟨s1, hw, h⟩ := h N
      refine ⟨s1, hw, T_mono c s1 _ _ (fun x s' hx => ?_) (ih s1 _ h)⟩
      have hx2 : ∀ t, wrs t c = false → s'.env t = s.env t := fun t ht => by rw [hx.2 t ht, hw.1 t ht]
      cases x with
      | normal =>
        refine iter_mono_Q (T_mono c) (fun x2 s2 h2 => ⟨h2.1, fun t ht => ?_⟩) k s' (ihk s' hx.1)
        rw [h2.2 t ht, hx2 t ht]
      | exit id => exact ⟨hx.1, hx2⟩
      | ret => exact ⟨hx.1, hx2⟩
  | exit id => intro s Q h; exact ⟨h, fun _ _ => rfl⟩
  | ret => intro s Q h; exact ⟨h, fun _ _ => rfl⟩
  | rangeFunc f ps as b => intro s Q h; exact h.elim
  | scope b => intro s Q h; exact h.elim
  | label l => intro s Q h; exact h.elim
  | goto l => intro s Q h; exact h.elim
  | refuse why => intro s Q h; exact h.elim
where iter_mono_Q {W : Nat → St → St → Prop} {F : St → (X → St → Prop) → Prop} (hF : ∀ s Q Q', (∀ x s, Q x s → Q' x s) → F s Q → F s Q') {Q Q' : X → St → Prop} (hq : ∀ x s, Q x s → Q' x s) : ∀ (k : Nat) (s : St), iter W F k s Q → iter W F k s Q'
  | 0, _, h => h
  | k + 1, s, h => by
    intro N
    obtain ⟨s2, hw, h⟩ := h N
    refine ⟨s2, hw, hF s2 _ _ (fun x s' hx => ?_) h⟩
    cases x with
    | normal => exact iter_mono_Q hF hq k s' hx
    | exit id => exact hq _ _ hx
    | ret => exact hq _ _ hx
theorem t_callG {ops : Array Oper} {K : St → Prop} {rest : List Oper} {dst : Option Tmp} {ty : TypeId} {pos : String} {af : Array Edge} {s : St} {g : Operand} {args : Array Operand} {ts : Array TypeId} {f : Nat} {caps as : List PV} (hg : evo s g = .fn f caps) (ha : args.toList.map (evo s) ++ caps = as)
    (h : CallsG P f as s.H fun r H' => Tops P ops rest ((St.mk s.env H').put dst r) K) : Tops P ops (⟨dst, .call ⟨.value g, args, ts⟩, ty, pos, af, none⟩ :: rest) s K := by
  refine t_call f caps hg ?_
  rw [ha]
  exact callok_gen h
section
variable {ops : Array Oper} {K : St → Prop} {rest : List Oper} {dst : Option Tmp} {ty : TypeId} {pos : String} {af : Array Edge} {s : St} {Hr : Hp} {fl : List Bool}
theorem t_gcallO {g : Operand} {args : Array Operand} {ts : Array TypeId} {j : Nat} {want : Bool} {d : Tmp} {b : Bool} {f : Nat} {caps as as' : List PV} {r : PV} (hd : (ops[j]?).bind (·.dst) = some d) (hb : s.env d = .bool b)
    (hg : evo s g = .fn f caps) (ha : b = want → args.toList.map (evo s) ++ caps = as) (hn : b = want → as.mapM (norm false s.H 8) = some as') (hp : b = want → PPure P f as' r) (hs : scalarB r = true) (h : Tops P ops rest (s.put dst (if b = want then r else .tup [])) K) :
    Tops P ops (⟨dst, .call ⟨.value g, args, ts⟩, ty, pos, af, some (j, want)⟩ :: rest) s K := by
  show Tguard _ _ _ _ _
  unfold Tguard
  simp only [hd, hb]
  split
  · rename_i hw
    rw [if_pos hw] at h
    unfold Top
    simp only [hg]
    rw [ha hw]
    exact callok_own false 8 as' (hn hw) r hs (hp hw) h
  · rename_i hw
    rw [if_neg hw] at h
    exact h
theorem m_callO {g : Operand} {args : Array Operand} {ts : Array TypeId} {f : Nat} {caps as as' : List PV} {r : PV} (hf : fl.headD false = false) (hg : evo s g = .fn f caps) (ha : args.toList.map (evo s) ++ caps = as)
    (hn : as.mapM (norm false Hr 8) = some as') (hp : PPure P f as' r) (hs : scalarB r = true) (h : TopsDm P zb ops rest fl.tail Hr (s.put dst r) K) : TopsDm P zb ops (⟨dst, .call ⟨.value g, args, ts⟩, ty, pos, af, none⟩ :: rest) fl Hr s K := by
  refine m_call f caps hf hg ?_
  rw [ha]
  exact .inl ⟨false, 8, as', r, hn, hs, hp, h⟩
theorem m_gcallO {g : Operand} {args : Array Operand} {ts : Array TypeId} {j : Nat} {want : Bool} {d : Tmp} {b : Bool} {f : Nat} {caps as as' : List PV} {r : PV} (hf : fl.headD false = false) (hd : (ops[j]?).bind (·.dst) = some d) (hb : s.env d = .bool b)
    (hg : evo s g = .fn f caps) (ha : b = want → args.toList.map (evo s) ++ caps = as) (hn : b = want → as.mapM (norm false Hr 8) = some as') (hp : b = want → PPure P f as' r) (hs : scalarB r = true) (h : TopsDm P zb ops rest fl.tail Hr (s.put dst (if b = want then r else .tup [])) K) :
    TopsDm P zb ops (⟨dst, .call ⟨.value g, args, ts⟩, ty, pos, af, some (j, want)⟩ :: rest) fl Hr s K := by
  refine m_false hf ?_
  show Tguard _ _ _ _ _
  unfold Tguard
  simp only [hd, hb]
  split
  · rename_i hw
    rw [if_pos hw] at h
    unfold TopQ
    simp only [hg]
    rw [ha hw]
    exact .inl (.inl ⟨false, 8, as', r, hn hw, hs, hp hw, h⟩)
  · rename_i hw
    rw [if_neg hw] at h
    exact h
theorem m_alloc {t : TypeId} {z : PV} {n : Nat} (hf : fl.headD false = false) (hz : tzero P t = some z) (hd : z.isDef = true) (hn : z.cells.length = n) (h : ∀ l, s.H l = none → (∀ l', (s.H l').isSome = true → (l' = l) = False ∧ (l = l') = False) → TopsDm P zb ops rest fl.tail Hr ((St.mk s.env (upd s.H l (some (.row true n [z])))).put dst (.ref l n 0 0)) K) :
    TopsDm P zb ops (⟨dst, .alloc t, ty, pos, af, none⟩ :: rest) fl Hr s K := by
  refine m_false hf ?_
  show Tguard _ _ _ _ _
  unfold Tguard
  simp only
  unfold TopQ
  exact ⟨z, hz, hd, fun l hl => by rw [hn]; exact h l hl (fresh_ne hl)⟩
end
theorem t_loopFW {c : Code} {s0 : St} {Q : X → St → Prop} (I : Nat → St → Prop) (k : Nat) (h0 : ∀ N, ∃ s2, Wk P c N s0 s2 ∧ I k s2) (step : ∀ k s, (∀ t, wrs t c = false → s.env t = s0.env t) → I k s → T P c s (KinvW P c I k Q)) : T P (.loop c) s0 Q := by
  refine t_loopW (fun k s => (∀ t, wrs t c = false → s.env t = s0.env t) ∧ I k s) k (fun N => by obtain ⟨s2, hw, h0⟩ := h0 N; exact ⟨s2, hw, hw.1, h0⟩) ?_
  rintro k s ⟨hf, hi⟩
  refine T_mono c s _ _ (fun x s' hx => ?_) (T_frame c s _ (step k s hf hi))
  cases x with
  | normal =>
    obtain ⟨⟨k', hlt, h'⟩, hfr⟩ := hx
    refine ⟨k', hlt, fun N => ?_⟩
    obtain ⟨s3, hw3, h'⟩ := h' N
    exact ⟨s3, hw3, fun t ht => by rw [hw3.1 t ht, hfr t ht, hf t ht], h'⟩
  | exit id => exact hx.1
  | ret => exact hx.1
theorem t_loopF {c : Code} {s0 : St} {Q : X → St → Prop} (I : Nat → St → Prop) (k : Nat) (h0 : I k s0) (step : ∀ k s, (∀ t, wrs t c = false → s.env t = s0.env t) → I k s → T P c s (Kinv I k Q)) : T P (.loop c) s0 Q := by
  refine t_loop (fun k s => (∀ t, wrs t c = false → s.env t = s0.env t) ∧ I k s) k ⟨fun _ _ => rfl, h0⟩ ?_
  rintro k s ⟨hf, hi⟩
  refine T_mono c s _ _ (fun x s' hx => ?_) (T_frame c s _ (step k s hf hi))
  cases x with
  | normal =>
    obtain ⟨⟨k', hlt, h'⟩, hfr⟩ := hx
    exact ⟨k', hlt, fun t ht => by rw [hfr t ht, hf t ht], h'⟩
  | exit id => exact hx.1
  | ret => exact hx.1
end
end Go.Proofs.Ythdgdngdfijfhaa
namespace Go.Proofs.Ythdgdngdfijfhaa
open Go.RowKit
set_option linter.unusedVariables false
set_option linter.unusedSimpArgs false
def updO (E : Nat → PV) (d : Option Tmp) (v : PV) : Nat → PV :=
  match d with
  | none => E
  | some d => upd E d v
theorem updO_some (E : Nat → PV) (d : Tmp) (v : PV) (i : Nat) : updO E (some d) v i = if i = d then v else E i := rfl
theorem updO_none (E : Nat → PV) (v : PV) : updO E none v = E := rfl
attribute [go_sem] updO_some updO_none
section
variable {zb : Bool} {P : Program} {E : Nat → PV} {H : Hp} {ops : Array Oper} {K : St → Prop} {dst : Option Tmp} {ty : TypeId} {pos : String} {af : Array Edge} {Hr : Hp} {fl : List Bool}
section
variable {rest : List Oper}
theorem te_val {op : Op} (v : PV) (he : isEff op = false) (hc : ∀ g args ts, op ≠ .call ⟨.value g, args, ts⟩) (hv : opVal P (St.mk E H) op = some v) (h : Tops P ops rest (St.mk (updO E dst v) H) K) :
    Tops P ops (⟨dst, op, ty, pos, af, none⟩ :: rest) (St.mk E H) K := by
  cases dst <;> exact t_val v he hc hv h
theorem te_callS {g : Operand} {args : Array Operand} {ts : Array TypeId} {f : Nat} {caps as as' : List PV} {r : PV} (hg : evo (St.mk E H) g = .fn f caps) (ha : args.toList.map (evo (St.mk E H)) ++ caps = as) (hn : as.mapM (norm false (restr [] H) 8) = some as') (hp : PPure P f as' r) (h : Tops P ops rest (St.mk (updO E dst r) H) K) : Tops P ops (⟨dst, .call ⟨.value g, args, ts⟩, ty, pos, af, none⟩ :: rest) (St.mk E H) K := by
  cases dst <;> exact t_callS hg ha hn hp h
theorem te_callO {g : Operand} {args : Array Operand} {ts : Array TypeId} {f : Nat} {caps as as' : List PV} {r : PV} (hg : evo (St.mk E H) g = .fn f caps) (ha : args.toList.map (evo (St.mk E H)) ++ caps = as) (hn : as.mapM (norm false H 8) = some as') (hp : PPure P f as' r) (hs : scalarB r = true) (h : Tops P ops rest (St.mk (updO E dst r) H) K) : Tops P ops (⟨dst, .call ⟨.value g, args, ts⟩, ty, pos, af, none⟩ :: rest) (St.mk E H) K := by
  cases dst <;> exact t_callO hg ha hn hp hs h
theorem te_gval {op : Op} {j : Nat} {want : Bool} {d : Tmp} (b : Bool) (v : PV) (hd : (ops[j]?).bind (·.dst) = some d) (hb : E d = .bool b) (he : isEff op = false) (hc : ∀ g args ts, op ≠ .call ⟨.value g, args, ts⟩) (hv : b = want → opVal P (St.mk E H) op = some v) (h : Tops P ops rest (St.mk (updO E dst (if b = want then v else .tup [])) H) K) :
    Tops P ops (⟨dst, op, ty, pos, af, some (j, want)⟩ :: rest) (St.mk E H) K := by
  cases dst <;> exact t_gval b v hd hb he hc hv h
theorem te_gcallS {g : Operand} {args : Array Operand} {ts : Array TypeId} {j : Nat} {want : Bool} {d : Tmp} {b : Bool} {f : Nat} {caps as : List PV} {r : PV} (hd : (ops[j]?).bind (·.dst) = some d) (hb : E d = .bool b) (hg : evo (St.mk E H) g = .fn f caps) (ha : b = want → args.toList.map (evo (St.mk E H)) ++ caps = as) (hc : as.all (closedB false) = true) (hp : b = want → PPure P f as r) (h : Tops P ops rest (St.mk (updO E dst (if b = want then r else .tup [])) H) K) :
    Tops P ops (⟨dst, .call ⟨.value g, args, ts⟩, ty, pos, af, some (j, want)⟩ :: rest) (St.mk E H) K := by
  cases dst <;> exact t_gcallS hd hb hg ha hc hp h
theorem te_gcallO {g : Operand} {args : Array Operand} {ts : Array TypeId} {j : Nat} {want : Bool} {d : Tmp} {b : Bool} {f : Nat} {caps as as' : List PV} {r : PV} (hd : (ops[j]?).bind (·.dst) = some d) (hb : E d = .bool b) (hg : evo (St.mk E H) g = .fn f caps) (ha : b = want → args.toList.map (evo (St.mk E H)) ++ caps = as) (hn : b = want → as.mapM (norm false H 8) = some as') (hp : b = want → PPure P f as' r) (hs : scalarB r = true) (h : Tops P ops rest (St.mk (updO E dst (if b = want then r else .tup [])) H) K) :
    Tops P ops (⟨dst, .call ⟨.value g, args, ts⟩, ty, pos, af, some (j, want)⟩ :: rest) (St.mk E H) K := by
  cases dst <;> exact t_gcallO hd hb hg ha hn hp hs h
theorem te_gno {op : Op} {j : Nat} {want b : Bool} {d : Tmp} (hd : (ops[j]?).bind (·.dst) = some d) (hb : E d = .bool b) (hne : (b == want) = false) (h : Tops P ops rest (St.mk (updO E dst (.tup [])) H) K) :
    Tops P ops (⟨dst, op, ty, pos, af, some (j, want)⟩ :: rest) (St.mk E H) K := by
  cases dst <;> exact t_gno hd hb hne h
theorem te_gskip {op : Op} {j : Nat} {want : Bool} {d : Tmp} (hd : (ops[j]?).bind (·.dst) = some d) (hb : E d = .tup []) (h : Tops P ops rest (St.mk (updO E dst (.tup [])) H) K) :
    Tops P ops (⟨dst, op, ty, pos, af, some (j, want)⟩ :: rest) (St.mk E H) K := by
  cases dst <;> exact t_gskip hd hb h
theorem te_append {x y : Operand} {t0 t1 e : TypeId} {k : LK} {xs ys : List PV} {n : Nat} (happ : appB P t0 t1 e = true) (hn : P.cellsOf e = n) (hx : evo (St.mk E H) x = .list k xs) (hy : itemsOf H (evo (St.mk E H) y) = some ys) (hk : k.loose = false) (hxw : widthB n xs = true) (hw : cellsB n ys = true) (hroom : (xs.length + ys.length) * P.bytesOf e ≤ roomB) (h0 : ys = [] → Tops P ops rest (St.mk (updO E dst (.list k xs)) H) K) (h1 : ys ≠ [] → ∀ l, H l = none → (∀ l', (H l').isSome = true → (l' = l) = False ∧ (l = l') = False) → Tops P ops rest (St.mk (updO E dst (.arr l n 0 (xs.length + ys.length))) (upd H l (some (.row true n (xs ++ ys))))) K) :
    Tops P ops (⟨dst, .call ⟨.builtin .append, #[x, y], #[t0, t1]⟩, ty, pos, af, none⟩ :: rest) (St.mk E H) K := by
  cases dst <;> exact t_append happ hn hx hy hk hxw hw hroom h0 h1
theorem te_gval2 {op : Op} {j : Nat} {want : Bool} {d : Tmp} {c w b : Bool} {v : PV} (hd : (ops[j]?).bind (·.dst) = some d) (hb : E d = if c = w then .bool b else .tup []) (he : isEff op = false) (hc : ∀ g args ts, op ≠ .call ⟨.value g, args, ts⟩) (hv : c = w → b = want → opVal P (St.mk E H) op = some v) (h : Tops P ops rest (St.mk (updO E dst (if c = w then (if b = want then v else .tup []) else .tup [])) H) K) :
    Tops P ops (⟨dst, op, ty, pos, af, some (j, want)⟩ :: rest) (St.mk E H) K := by
  cases dst <;> exact t_gval2 hd hb he hc hv h
theorem te_gcall2 {g : Operand} {args : Array Operand} {ts : Array TypeId} {j : Nat} {want : Bool} {d : Tmp} {c w b : Bool} {f : Nat} {caps as : List PV} {r : PV} (hd : (ops[j]?).bind (·.dst) = some d) (hb : E d = if c = w then .bool b else .tup []) (hg : evo (St.mk E H) g = .fn f caps) (ha : c = w → b = want → args.toList.map (evo (St.mk E H)) ++ caps = as) (hc : as.all (closedB false) = true) (hp : c = w → b = want → PPure P f as r) (h : Tops P ops rest (St.mk (updO E dst (if c = w then (if b = want then r else .tup []) else .tup [])) H) K) :
    Tops P ops (⟨dst, .call ⟨.value g, args, ts⟩, ty, pos, af, some (j, want)⟩ :: rest) (St.mk E H) K := by
  cases dst <;> exact t_gcall2 hd hb hg ha hc hp h
theorem te_box {t : TypeId} {x : Operand} {v : PV} {cs : List PV} (hx : evo (St.mk E H) x = v) (hd : v.isDef = true) (hv : v.cells = cs) (h : Tops P ops rest (St.mk (updO E dst (.cptr cs)) H) K) : Tops P ops (⟨dst, .box t x, ty, pos, af, none⟩ :: rest) (St.mk E H) K := by
  cases dst <;> exact t_box hx hd hv h
theorem te_boxL {t : TypeId} {x : Operand} {v : PV} {n : Nat} (hx : evo (St.mk E H) x = v) (hd : v.isDef = true) (hn : v.cells.length = n) (h : ∀ l, H l = none → (∀ l', (H l').isSome = true → (l' = l) = False ∧ (l = l') = False) → Tops P ops rest (St.mk (updO E dst (.ref l n 0 0)) (upd H l (some (.row true n [v])))) K) : Tops P ops (⟨dst, .box t x, ty, pos, af, none⟩ :: rest) (St.mk E H) K := by
  cases dst <;> exact t_boxL hx hd hn h
theorem te_alloc {t : TypeId} {z : PV} {n : Nat} (hz : tzero P t = some z) (hd : z.isDef = true) (hn : z.cells.length = n) (h : ∀ l, H l = none → (∀ l', (H l').isSome = true → (l' = l) = False ∧ (l = l') = False) → Tops P ops rest (St.mk (updO E dst (.ref l n 0 0)) (upd H l (some (.row true n [z])))) K) : Tops P ops (⟨dst, .alloc t, ty, pos, af, none⟩ :: rest) (St.mk E H) K := by
  cases dst <;> exact t_alloc hz hd hn h
theorem te_allocT {t : TypeId} {r : List PV} {n : Nat} (hz : tzero P t = some (.agg (.nilp :: r))) (hn : r.length + 1 = n) (h : ∀ b, H (.real b) = none → (∀ l', (H l').isSome = true → (l' = .real b) = False ∧ (.real b = l') = False) → Tops P ops rest (St.mk (updO E dst (.ref (.real b) n 0 0)) (upd H (.real b) (some (.row true n [.agg (.tagp false b t n :: r)])))) K) : Tops P ops (⟨dst, .alloc t, ty, pos, af, none⟩ :: rest) (St.mk E H) K := by
  cases dst <;> exact t_allocT hz hn h
theorem te_store {t : TypeId} {a x : Operand} {l : Lab} {sz i off : Nat} {xs xs' : List PV} {e v : PV} (ha : evo (St.mk E H) a = .ref l sz i off) (hr : ownRow H l sz = some xs) (hi : xs[i]? = some e) (hx : evo (St.mk E H) x = v) (hd : (v.isDef && v.cells.all PV.isCell && v.cells.length == P.cellsOf t && P.cellsOf t != 0 && decide (off + P.cellsOf t ≤ sz) && (e.isAgg || !v.isAgg)) = true) (hs : xs.set i (setC e off v) = xs') (h : Tops P ops rest (St.mk (updO E dst (.tup [])) (upd H l (some (.row true sz xs')))) K) : Tops P ops (⟨dst, .store t a x, ty, pos, af, none⟩ :: rest) (St.mk E H) K := by
  cases dst <;> exact t_store ha hr hi hx hd hs h
theorem te_makeSlice {t e : TypeId} {x y : Operand} {z : PV} {n : Nat} {k k' : IntKind} {a : Int} (hu : P.underlying t = some (.slice e)) (hn : P.cellsOf e = n) (hx : evo (St.mk E H) x = .int k a) (hy : evo (St.mk E H) y = .int k' a) (hz : tzero P e = some z) (hd : z.isDef = true) (hl : z.cells.length = n) (h0 : 0 ≤ a) (hroom : a.toNat * P.bytesOf e ≤ roomB) (h63 : a ≤ 9223372036854775807) (h : ∀ l, H l = none → (∀ l', (H l').isSome = true → (l' = l) = False ∧ (l = l') = False) → Tops P ops rest (St.mk (updO E dst (.arr l n 0 a.toNat)) (upd H l (some (.row true n (List.replicate a.toNat z))))) K) :
    Tops P ops (⟨dst, .makeSlice t x y, ty, pos, af, none⟩ :: rest) (St.mk E H) K := by
  cases dst <;> exact t_makeSlice hu hn hx hy hz hd hl h0 hroom h63 h
theorem te_copy {x y : Operand} {t0 t1 e : TypeId} {l : Lab} {n lo len : Nat} {xs ys : List PV} (happ : appB P t0 t1 e = true) (hn : P.cellsOf e = n) (hx : evo (St.mk E H) x = .arr l n lo len) (hr : ownRow H l n = some xs) (hlen : lo + len ≤ xs.length) (hy : itemsOf H (evo (St.mk E H) y) = some ys) (hw : cellsB n ys = true) (h : Tops P ops rest (St.mk (updO E dst (.int .i64 ((min ys.length len : Nat) : Int))) (upd H l (some (.row true n (splice xs lo (ys.take len)))))) K) :
    Tops P ops (⟨dst, .call ⟨.builtin .copy, #[x, y], #[t0, t1]⟩, ty, pos, af, none⟩ :: rest) (St.mk E H) K := by
  cases dst <;> exact t_copy happ hn hx hr hlen hy hw h
theorem te_appendG {x y : Operand} {t0 t1 e : TypeId} {v : PV} {xs ys : List PV} {n : Nat} (happ : appB P t0 t1 e = true) (hn : P.cellsOf e = n) (hx : evo (St.mk E H) x = v) (hacc : Acc H v n xs) (hy : itemsOf H (evo (St.mk E H) y) = some ys) (hne : ys.isEmpty = false) (hw : cellsB n ys = true) (hroom : (xs.length + ys.length) * P.bytesOf e ≤ roomB) (h1 : ∀ u H', Acc H' u n (xs ++ ys) → Tops P ops rest (St.mk (updO E dst u) H') K) :
    Tops P ops (⟨dst, .call ⟨.builtin .append, #[x, y], #[t0, t1]⟩, ty, pos, af, none⟩ :: rest) (St.mk E H) K := by
  cases dst <;> exact t_appendG happ hn hx hacc hy hne hw hroom h1
theorem te_callG {ops : Array Oper} {K : St → Prop} {rest : List Oper} {dst : Option Tmp} {ty : TypeId} {pos : String} {af : Array Edge}  {g : Operand} {args : Array Operand} {ts : Array TypeId} {f : Nat} {caps as : List PV} (hg : evo (St.mk E H) g = .fn f caps) (ha : args.toList.map (evo (St.mk E H)) ++ caps = as) (h : CallsG P f as H fun r H' => Tops P ops rest (St.mk (updO E dst r) H') K) : Tops P ops (⟨dst, .call ⟨.value g, args, ts⟩, ty, pos, af, none⟩ :: rest) (St.mk E H) K := by
  cases dst <;> exact t_callG hg ha h
theorem me_val {op : Op} (v : PV) (he : isEff op = false) (hc : ∀ g args ts, op ≠ .call ⟨.value g, args, ts⟩) (hv : opVal P (St.mk E Hr) op = some v) (h : TopsDm P zb ops rest fl Hr (St.mk (updO E dst v) H) K) :
    TopsDm P zb ops (⟨dst, op, ty, pos, af, none⟩ :: rest) (false :: fl) Hr (St.mk E H) K := by
  cases dst <;> exact m_val v rfl he hc hv h
theorem me_callS {g : Operand} {args : Array Operand} {ts : Array TypeId} {f : Nat} {caps as as' : List PV} {r : PV} (hg : evo (St.mk E H) g = .fn f caps) (ha : args.toList.map (evo (St.mk E H)) ++ caps = as) (hn : as.mapM (norm false (restr [] Hr) 8) = some as') (hp : PPure P f as' r) (h : TopsDm P zb ops rest fl Hr (St.mk (updO E dst r) H) K) : TopsDm P zb ops (⟨dst, .call ⟨.value g, args, ts⟩, ty, pos, af, none⟩ :: rest) (false :: fl) Hr (St.mk E H) K := by
  cases dst <;> exact m_callS rfl hg ha hn hp h
theorem me_callO {g : Operand} {args : Array Operand} {ts : Array TypeId} {f : Nat} {caps as as' : List PV} {r : PV} (hg : evo (St.mk E H) g = .fn f caps) (ha : args.toList.map (evo (St.mk E H)) ++ caps = as) (hn : as.mapM (norm false Hr 8) = some as') (hp : PPure P f as' r) (hs : scalarB r = true) (h : TopsDm P zb ops rest fl Hr (St.mk (updO E dst r) H) K) : TopsDm P zb ops (⟨dst, .call ⟨.value g, args, ts⟩, ty, pos, af, none⟩ :: rest) (false :: fl) Hr (St.mk E H) K := by
  cases dst <;> exact m_callO rfl hg ha hn hp hs h
theorem me_gval {op : Op} {j : Nat} {want : Bool} {d : Tmp} (b : Bool) (v : PV) (hd : (ops[j]?).bind (·.dst) = some d) (hb : E d = .bool b) (he : isEff op = false) (hc : ∀ g args ts, op ≠ .call ⟨.value g, args, ts⟩) (hv : b = want → opVal P (St.mk E Hr) op = some v) (h : TopsDm P zb ops rest fl Hr (St.mk (updO E dst (if b = want then v else .tup [])) H) K) :
    TopsDm P zb ops (⟨dst, op, ty, pos, af, some (j, want)⟩ :: rest) (false :: fl) Hr (St.mk E H) K := by
  cases dst <;> exact m_gval b v rfl hd hb he hc hv h
theorem me_gcallS {g : Operand} {args : Array Operand} {ts : Array TypeId} {j : Nat} {want : Bool} {d : Tmp} {b : Bool} {f : Nat} {caps as : List PV} {r : PV} (hd : (ops[j]?).bind (·.dst) = some d) (hb : E d = .bool b) (hg : evo (St.mk E H) g = .fn f caps) (ha : b = want → args.toList.map (evo (St.mk E H)) ++ caps = as) (hc : as.all (closedB false) = true) (hp : b = want → PPure P f as r) (h : TopsDm P zb ops rest fl Hr (St.mk (updO E dst (if b = want then r else .tup [])) H) K) :
    TopsDm P zb ops (⟨dst, .call ⟨.value g, args, ts⟩, ty, pos, af, some (j, want)⟩ :: rest) (false :: fl) Hr (St.mk E H) K := by
  cases dst <;> exact m_gcallS rfl hd hb hg ha hc hp h
theorem me_gcallO {g : Operand} {args : Array Operand} {ts : Array TypeId} {j : Nat} {want : Bool} {d : Tmp} {b : Bool} {f : Nat} {caps as as' : List PV} {r : PV} (hd : (ops[j]?).bind (·.dst) = some d) (hb : E d = .bool b) (hg : evo (St.mk E H) g = .fn f caps) (ha : b = want → args.toList.map (evo (St.mk E H)) ++ caps = as) (hn : b = want → as.mapM (norm false Hr 8) = some as') (hp : b = want → PPure P f as' r) (hs : scalarB r = true) (h : TopsDm P zb ops rest fl Hr (St.mk (updO E dst (if b = want then r else .tup [])) H) K) :
    TopsDm P zb ops (⟨dst, .call ⟨.value g, args, ts⟩, ty, pos, af, some (j, want)⟩ :: rest) (false :: fl) Hr (St.mk E H) K := by
  cases dst <;> exact m_gcallO rfl hd hb hg ha hn hp hs h
theorem me_gno {op : Op} {j : Nat} {want b : Bool} {d : Tmp} (hd : (ops[j]?).bind (·.dst) = some d) (hb : E d = .bool b) (hne : (b == want) = false) (h : TopsDm P zb ops rest fl Hr (St.mk (updO E dst (.tup [])) H) K) :
    TopsDm P zb ops (⟨dst, op, ty, pos, af, some (j, want)⟩ :: rest) (false :: fl) Hr (St.mk E H) K := by
  cases dst <;> exact m_gno hd hb rfl hne h
theorem me_gskip {op : Op} {j : Nat} {want : Bool} {d : Tmp} (hd : (ops[j]?).bind (·.dst) = some d) (hb : E d = .tup []) (h : TopsDm P zb ops rest fl Hr (St.mk (updO E dst (.tup [])) H) K) :
    TopsDm P zb ops (⟨dst, op, ty, pos, af, some (j, want)⟩ :: rest) (false :: fl) Hr (St.mk E H) K := by
  cases dst <;> exact m_gskip rfl hd hb h
theorem me_append {x y : Operand} {t0 t1 e : TypeId} {k : LK} {xs ys : List PV} {n : Nat} (happ : appB P t0 t1 e = true) (hn : P.cellsOf e = n) (hx : evo (St.mk E H) x = .list k xs) (hy : itemsOf Hr (evo (St.mk E H) y) = some ys) (hk : k.loose = false) (hxw : widthB n xs = true) (hw : cellsB n ys = true) (hroom : (xs.length + ys.length) * P.bytesOf e ≤ roomB) (h0 : ys = [] → TopsDm P zb ops rest fl Hr (St.mk (updO E dst (.list k xs)) H) K) (h1 : ys ≠ [] → ∀ l, H l = none → (∀ l', (H l').isSome = true → (l' = l) = False ∧ (l = l') = False) → TopsDm P zb ops rest fl Hr (St.mk (updO E dst (.arr l n 0 (xs.length + ys.length))) (upd H l (some (.row true n (xs ++ ys))))) K) :
    TopsDm P zb ops (⟨dst, .call ⟨.builtin .append, #[x, y], #[t0, t1]⟩, ty, pos, af, none⟩ :: rest) (false :: fl) Hr (St.mk E H) K := by
  cases dst <;> exact m_append rfl happ hn hx hy hk hxw hw hroom h0 h1
theorem me_gval2 {op : Op} {j : Nat} {want : Bool} {d : Tmp} {c w b : Bool} {v : PV} (hd : (ops[j]?).bind (·.dst) = some d) (hb : E d = if c = w then .bool b else .tup []) (he : isEff op = false) (hc : ∀ g args ts, op ≠ .call ⟨.value g, args, ts⟩) (hv : c = w → b = want → opVal P (St.mk E Hr) op = some v) (h : TopsDm P zb ops rest fl Hr (St.mk (updO E dst (if c = w then (if b = want then v else .tup []) else .tup [])) H) K) :
    TopsDm P zb ops (⟨dst, op, ty, pos, af, some (j, want)⟩ :: rest) (false :: fl) Hr (St.mk E H) K := by
  cases dst <;> exact m_gval2 rfl hd hb he hc hv h
theorem me_gcall2 {g : Operand} {args : Array Operand} {ts : Array TypeId} {j : Nat} {want : Bool} {d : Tmp} {c w b : Bool} {f : Nat} {caps as : List PV} {r : PV} (hd : (ops[j]?).bind (·.dst) = some d) (hb : E d = if c = w then .bool b else .tup []) (hg : evo (St.mk E H) g = .fn f caps) (ha : c = w → b = want → args.toList.map (evo (St.mk E H)) ++ caps = as) (hc : as.all (closedB false) = true) (hp : c = w → b = want → PPure P f as r) (h : TopsDm P zb ops rest fl Hr (St.mk (updO E dst (if c = w then (if b = want then r else .tup []) else .tup [])) H) K) :
    TopsDm P zb ops (⟨dst, .call ⟨.value g, args, ts⟩, ty, pos, af, some (j, want)⟩ :: rest) (false :: fl) Hr (St.mk E H) K := by
  cases dst <;> exact m_gcall2 rfl hd hb hg ha hc hp h
theorem me_store {t : TypeId} {a x : Operand} {l : Lab} {sz i off : Nat} {xs xs' : List PV} {e v : PV} (ha : evo (St.mk E H) a = .ref l sz i off) (hr : ownRow H l sz = some xs) (hi : xs[i]? = some e) (hx : evo (St.mk E H) x = v) (hd : (v.isDef && v.cells.all PV.isCell && v.cells.length == P.cellsOf t && P.cellsOf t != 0 && decide (off + P.cellsOf t ≤ sz) && (e.isAgg || !v.isAgg)) = true) (hs : xs.set i (setC e off v) = xs') (h : TopsDm P false ops rest fl (upd H l (some (.row true sz xs'))) (St.mk (updO E dst (.tup [])) (upd H l (some (.row true sz xs')))) K) : TopsDm P false ops (⟨dst, .store t a x, ty, pos, af, none⟩ :: rest) (true :: fl) Hr (St.mk E H) K := by
  cases dst <;> exact m_store rfl ha hr hi hx hd hs h
theorem me_alloc {t : TypeId} {z : PV} {n : Nat} (hz : tzero P t = some z) (hd : z.isDef = true) (hn : z.cells.length = n) (h : ∀ l, H l = none → (∀ l', (H l').isSome = true → (l' = l) = False ∧ (l = l') = False) → TopsDm P zb ops rest fl Hr (St.mk (updO E dst (.ref l n 0 0)) (upd H l (some (.row true n [z])))) K) :
    TopsDm P zb ops (⟨dst, .alloc t, ty, pos, af, none⟩ :: rest) (false :: fl) Hr (St.mk E H) K := by
  cases dst <;> exact m_alloc rfl hz hd hn h
theorem te_gno2 {rest : List Oper} {op : Op} {j : Nat} {want c w b : Bool} {d : Tmp} (hd : (ops[j]?).bind (·.dst) = some d) (hb : E d = if c = w then .bool b else .tup []) (hne : (b == want) = false) (h : Tops P ops rest (St.mk (updO E dst (.tup [])) H) K) :
    Tops P ops (⟨dst, op, ty, pos, af, some (j, want)⟩ :: rest) (St.mk E H) K := by
  by_cases hw : c = w
  · rw [if_pos hw] at hb; exact te_gno hd hb hne h
  · rw [if_neg hw] at hb; exact te_gskip hd hb h
theorem me_gno2 {rest : List Oper} {op : Op} {j : Nat} {want c w b : Bool} {d : Tmp} (hd : (ops[j]?).bind (·.dst) = some d) (hb : E d = if c = w then .bool b else .tup []) (hne : (b == want) = false) (h : TopsDm P zb ops rest fl Hr (St.mk (updO E dst (.tup [])) H) K) :
    TopsDm P zb ops (⟨dst, op, ty, pos, af, some (j, want)⟩ :: rest) (false :: fl) Hr (St.mk E H) K := by
  by_cases hw : c = w
  · rw [if_pos hw] at hb; exact me_gno hd hb hne h
  · rw [if_neg hw] at hb; exact me_gskip hd hb h
theorem te_drwE {id : Nat} {l : List Oper} {Q : X → St → Prop} {fl : List Bool} (hfl : effFl l = fl) (hok : drawOK false l.toArray fl = true) (h : TopsDm P false l.toArray l fl H ⟨E, H⟩ (Q .normal)) : T P (.region id l.toArray true) ⟨E, H⟩ Q := t_draw fl hok h
def effFlA (l : List Oper) : List Bool := l.map fun o => match o.op with
  | .store .. => true
  | .call { callee := .builtin .copy, .. } => true
  | .call { callee := .builtin .append, .. } => true
  | _ => false
theorem te_drwA {id : Nat} {l : List Oper} {Q : X → St → Prop} {fl : List Bool} (hfl : effFlA l = fl) (hok : drawOK false l.toArray fl = true) (h : TopsDm P false l.toArray l fl H ⟨E, H⟩ (Q .normal)) : T P (.region id l.toArray true) ⟨E, H⟩ Q := t_draw fl hok h
def KinvE (I : Nat → (Nat → PV) → Hp → Prop) (k : Nat) (Q : X → St → Prop) (x : X) (s : St) : Prop :=
  match x with
  | .normal => ∃ k', k' < k ∧ I k' s.env s.H
  | x => Q x s
theorem t_loopE {c : Code} {Q : X → St → Prop} (I : Nat → (Nat → PV) → Hp → Prop) (k : Nat) (h0 : I k E H) (step : ∀ k E' H', (∀ t, wrs t c = false → E' t = E t) → I k E' H' → T P c ⟨E', H'⟩ (KinvE I k Q)) :
    T P (.loop c) ⟨E, H⟩ Q :=
  t_loopF (fun k s => I k s.env s.H) k h0 fun k s hf hi => T_mono c _ _ _ (fun x s' h => by cases x <;> exact h) (step k s.env s.H hf hi)
theorem k_invE {I : Nat → (Nat → PV) → Hp → Prop} {k : Nat} {Q : X → St → Prop} (k' : Nat) (hlt : k' < k) (h : I k' E H) : KinvE I k Q .normal ⟨E, H⟩ := ⟨k', hlt, h⟩
theorem k_invE_exit {I : Nat → (Nat → PV) → Hp → Prop} {k : Nat} {Q : X → St → Prop} {s : St} {id : Nat} (h : Q (.exit id) s) : KinvE I k Q (.exit id) s := h
theorem k_invE_ret {I : Nat → (Nat → PV) → Hp → Prop} {k : Nat} {Q : X → St → Prop} {s : St} (h : Q .ret s) : KinvE I k Q .ret s := h
end
end
end Go.Proofs.Ythdgdngdfijfhaa
namespace Go.Proofs.Ythdgdngdfijfhaa
open Go.RowKit
set_option linter.unusedVariables false
set_option linter.unusedSimpArgs false
section
variable {zb : Bool} {P : Program} {E : Nat → PV} {H : Hp}
theorem te_drwZ {id : Nat} {l : List Oper} {Q : X → St → Prop} {fl : List Bool} (hfl : effFl l = fl) (hok : drawOK true l.toArray fl = true) (h : TopsDm P true l.toArray l fl (fun _ => none) ⟨E, H⟩ (Q .normal)) : T P (.region id l.toArray true) ⟨E, H⟩ Q :=
  t_drawZ fl (fun _ => none) (fun _ _ e => by cases e) hok h
theorem frz_apply (L : List Lab) (l : Lab) : frz L H l = if l ∈ L then (H l).map Chunk.frz else H l := rfl
theorem restr_apply (L : List Lab) (l : Lab) : restr L H l = if l ∈ L then H l else none := rfl
theorem frz_row (m : Bool) (n : Nat) (xs : List PV) : Chunk.frz (.row m n xs) = .row false n xs := rfl
attribute [go_sem] frz_apply restr_apply frz_row List.mem_singleton
end
end Go.Proofs.Ythdgdngdfijfhaa
namespace Go.Proofs.Ythdgdngdfijfhaa
open Go.RowKit
set_option linter.unusedVariables false
set_option linter.unusedSimpArgs false
def Sep : PV → PV → Prop
  | .arr l _ _ _, .arr l' _ _ _ => l ≠ l'
  | _, _ => True
def Acc2 (H : Hp) (v : PV) (n : Nat) (xs : List PV) (v2 : PV) (n2 : Nat) (ys : List PV) : Prop := Acc H v n xs ∧ Acc H v2 n2 ys ∧ Sep v v2
theorem Sep.symm {v v2 : PV} (h : Sep v v2) : Sep v2 v := by
  cases v <;> cases v2 <;> first | trivial | exact Ne.symm h
theorem Acc2.symm {H : Hp} {v v2 : PV} {n n2 : Nat} {xs ys : List PV} (h : Acc2 H v n xs v2 n2 ys) : Acc2 H v2 n2 ys v n xs := ⟨h.2.1, h.1, h.2.2.symm⟩
theorem Acc2.nil (H : Hp) (n n2 : Nat) : Acc2 H (.list .nil []) n [] (.list .nil []) n2 [] := ⟨Acc.nil _ _, Acc.nil _ _, trivial⟩
section
variable {zb : Bool} {P : Program} {E : Nat → PV} {H : Hp} {ops : Array Oper} {K : St → Prop} {rest : List Oper} {dst : Option Tmp} {ty : TypeId} {pos : String} {af : Array Edge}
end
end Go.Proofs.Ythdgdngdfijfhaa
namespace Go.Proofs.Ythdgdngdfijfhaa
open Go.RowKit
set_option linter.unusedVariables false
theorem vr_split {w : World} {O : Nat → Prop} {v : Value} {xs : List PV} (h : VR w O v (.list .any xs)) (hx : xs = []) : VR w O v (.list .nil xs) ∨ VR w O v (.list .made xs) := by
  cases h with
  | list _ _ a cap sz cs g1 g2 g3 g4 g5 g6 g7 =>
    cases a with
    | none => exact .inl (.list .nil xs none cap sz cs g1 (fun _ => ⟨rfl, g3.2.2 rfl⟩) ⟨nofun, nofun, fun _ => g3.2.2 rfl⟩ g4 g5 g6 g7)
    | some a => exact .inr (.list .made xs (some a) cap sz cs g1 nofun ⟨nofun, fun _ => nofun, nofun⟩ g4 g5 g6 g7)
theorem ppure_nil {P : Program} {f : FuncId} {r : PV} (h0 : PPure P f [.list .nil []] r) (h1 : PPure P f [.list .made []] r) : PPure P f [.list .any []] r := by
  refine ⟨h0.1, fun w X vs hX hv => ?_⟩
  obtain ⟨v, rfl⟩ : ∃ v, vs = #[v] := by
    have h := hv.1
    refine ⟨vs[0]'(by rw [h]; decide), ?_⟩
    apply Array.ext
    · exact h
    · intro i h1 h2
      have : i = 0 := by simp at h2; exact h2
      subst this; rfl
  have hv0 := hv.2 0 v _ rfl rfl
  have mk : ∀ p, VR w X v p → VRs w X #[v] [p] := fun p hp => ⟨rfl, fun i u q hu hq => by
    cases i with
    | zero => simp at hu hq; subst hu; subst hq; exact hp
    | succ i => simp at hq⟩
  rcases vr_split hv0 rfl with h | h
  · exact h0.2 w X _ hX (mk _ h)
  · exact h1.2 w X _ hX (mk _ h)
def arrT (P : Program) (t : TypeId) : Bool :=
  match P.underlying t with
  | some (.array _ _) => true
  | _ => false
theorem arrT_eq (P : Program) (t : TypeId) : arrT P t = match P.underlying t with
  | some (.array _ _) => true
  | _ => false := rfl
def placeA (P : Program) (t : TypeId) (i : Nat) : Option (Nat × Nat) :=
  match P.underlying t with
  | some (.array _ e) => some (i * P.cellsOf e, P.cellsOf e)
  | _ => none
theorem opVal_buildA {P : Program} {s : St} (t : TypeId) (parts : Array (Nat × Operand)) (ha : arrT P t = true) (hg : goodT P t = true) : opVal P s (.build t parts) =
    (tzero P t).bind fun z => (fillP (placeA P t) z.cells (parts.toList.map fun q => (q.1, evo s q.2))).map .agg := by
  unfold arrT at ha
  split at ha
  · rename_i n e h
    simp only [opVal]
    have hp : placeA P t = fun i => some (i * P.cellsOf e, P.cellsOf e) := by funext i; unfold placeA; rw [h]
    rw [h, hp]
    simp only [hg]
    rfl
  · cases ha
attribute [go_sem] arrT_eq placeA opVal_buildA
def isNilB (k : LK) (xs : List PV) : Option Bool :=
  match k with
  | .nil => some true
  | .made => some false
  | _ => if xs.isEmpty = true then none else some false
theorem nilB1 (xs : List PV) : isNilB .nil xs = some true := rfl
theorem nilB2 (xs : List PV) : isNilB .made xs = some false := rfl
theorem nilB3 (xs : List PV) : isNilB .any xs = if xs.isEmpty = true then none else some false := rfl
theorem nilB4 (xs : List PV) : isNilB .full xs = if xs.isEmpty = true then none else some false := rfl
def sliceT (P : Program) (t : TypeId) : Bool :=
  match P.underlying t with
  | some (.slice _) => true
  | _ => false
theorem sliceT_eq (P : Program) (t : TypeId) : sliceT P t = match P.underlying t with
  | some (.slice _) => true
  | _ => false := rfl
theorem pv_nilE {P : Program} {t : TypeId} {k : LK} {xs : List PV} (h : sliceT P t = true) : pvBin P .eql t (.list k xs) (.list .nil []) = (isNilB k xs).map fun b => .bool b := by
  unfold sliceT at h
  split at h
  · rename_i e h1; cases k <;> cases xs <;> simp [pvBin, h1, isNilB]
  · cases h
theorem pv_nilN {P : Program} {t : TypeId} {k : LK} {xs : List PV} (h : sliceT P t = true) : pvBin P .neq t (.list k xs) (.list .nil []) = (isNilB k xs).map fun b => .bool (!b) := by
  unfold sliceT at h
  split at h
  · rename_i e h1; cases k <;> cases xs <;> simp [pvBin, h1, isNilB]
  · cases h
attribute [go_sem] sliceT_eq nilB1 nilB2 nilB3 nilB4 pv_nilE pv_nilN
section
variable {zb : Bool} {P : Program} {E : Nat → PV} {H : Hp} {ops : Array Oper} {K : St → Prop} {rest : List Oper} {dst : Option Tmp} {ty : TypeId} {pos : String} {af : Array Edge} {Hr : Hp} {fl : List Bool}
theorem te_callGB {g : Operand} {args : Array Operand} {ts : Array TypeId} {f : Nat} {fs as : List PV} (hg : evo (St.mk E H) g = .bfn f fs) (ha : fs ++ args.toList.map (evo (St.mk E H)) = as) (h : CallsG P f as H fun r H' => Tops P ops rest (St.mk (updO E dst r) H') K) : Tops P ops (⟨dst, .call ⟨.value g, args, ts⟩, ty, pos, af, none⟩ :: rest) (St.mk E H) K := by
  show Tguard _ _ _ _ _
  unfold Tguard
  simp only
  unfold Top
  simp only [hg, ha]
  cases dst <;> exact .inr (.inr h)
theorem me_callN {g : Operand} {args : Array Operand} {ts : Array TypeId} {f : Nat} {caps as : List PV} {sz : Nat} {xs : List PV} (hg : evo (St.mk E H) g = .fn f caps) (ha : args.toList.map (evo (St.mk E H)) ++ caps = as) (hp : CallN P f as sz xs)
    (h : ∀ l, H l = none → (∀ l', (H l').isSome = true → (l' = l) = False ∧ (l = l') = False) → TopsDm P zb ops rest fl Hr (St.mk (updO E dst (.arr l sz 0 xs.length)) (upd H l (some (.row true sz xs)))) K) : TopsDm P zb ops (⟨dst, .call ⟨.value g, args, ts⟩, ty, pos, af, none⟩ :: rest) (false :: fl) Hr (St.mk E H) K := by
  refine m_false rfl ?_
  show Tguard _ _ _ _ _
  unfold Tguard
  simp only
  unfold TopQ
  simp only [hg, ha]
  refine .inr ⟨sz, xs, hp, fun l hl => ?_⟩
  cases dst <;> exact h l hl (fresh_ne hl)
def allocB (P : Program) (o : Oper) : Bool :=
  match o.op with
  | .alloc t => match tzero P t with
    | some z => z.isDef
    | none => false
  | _ => true
theorem allocB_ok {o : Oper} (h : allocB P o = true) : allocOK P o := by
  intro t ht
  unfold allocB at h
  rw [ht] at h
  simp only at h
  split at h
  · rename_i z hz; exact ⟨z, hz, h⟩
  · cases h
theorem allocs_ok {rest : List Oper} (h : rest.all (allocB P) = true) : ∀ q ∈ marked rest fl, allocOK P q.1 := by
  intro q hq
  have : q.1 ∈ rest := by rw [← marked_map rest fl]; exact List.mem_map_of_mem hq
  exact allocB_ok (List.all_eq_true.1 h _ this)
theorem me_callG {g : Operand} {args : Array Operand} {ts : Array TypeId} {f : Nat} {caps as : List PV} (hg : evo (St.mk E H) g = .fn f caps) (ha : args.toList.map (evo (St.mk E H)) ++ caps = as) (hok : rest.all (allocB P) = true) (h : CallsG P f as H fun r H' => TopsDm P false ops rest fl H' (St.mk (updO E dst r) H') K) : TopsDm P false ops (⟨dst, .call ⟨.value g, args, ts⟩, ty, pos, af, none⟩ :: rest) (true :: fl) Hr (St.mk E H) K := by
  refine m_trueE rfl (fun _ => allocs_ok hok) ?_
  unfold Tguard
  simp only
  unfold Top
  simp only [hg, ha]
  cases dst <;> exact .inr (.inr h)
theorem me_callGB {g : Operand} {args : Array Operand} {ts : Array TypeId} {f : Nat} {fs as : List PV} (hg : evo (St.mk E H) g = .bfn f fs) (ha : fs ++ args.toList.map (evo (St.mk E H)) = as) (hok : rest.all (allocB P) = true) (h : CallsG P f as H fun r H' => TopsDm P false ops rest fl H' (St.mk (updO E dst r) H') K) : TopsDm P false ops (⟨dst, .call ⟨.value g, args, ts⟩, ty, pos, af, none⟩ :: rest) (true :: fl) Hr (St.mk E H) K := by
  refine m_trueE rfl (fun _ => allocs_ok hok) ?_
  unfold Tguard
  simp only
  unfold Top
  simp only [hg, ha]
  cases dst <;> exact .inr (.inr h)
def effFlC (l : List Oper) : List Bool := l.map fun o => match o.op with
  | .store .. => true
  | .call { callee := .builtin .copy, .. } => true
  | .call { callee := .builtin .append, .. } => true
  | .call { callee := .value _, .. } => true
  | _ => false
theorem te_drwC {id : Nat} {l : List Oper} {Q : X → St → Prop} {fl : List Bool} (hfl : effFlC l = fl) (hok : drawOK false l.toArray fl = true) (h : TopsDm P false l.toArray l fl H ⟨E, H⟩ (Q .normal)) : T P (.region id l.toArray true) ⟨E, H⟩ Q := t_draw fl hok h
theorem upd_fresh {H : Hp} {l l' : Lab} (h : l' = l ∨ H l' = none) : upd H l none l' = none := by
  simp only [upd_apply]
  split
  · rfl
  · rename_i e; exact h.resolve_left e
theorem te_appendB {x y : Operand} {t0 t1 e : TypeId} {l : Lab} {len : Nat} {xs ys : List PV} {n : Nat} (happ : appB P t0 t1 e = true) (hn : P.cellsOf e = n) (hx : evo (St.mk E H) x = .arr l n 0 len) (hr : ownRow H l n = some xs) (hlen : len ≤ xs.length)
    (hy : itemsOf H (evo (St.mk E H) y) = some ys) (hw : cellsB n ys = true) (hroom : (len + ys.length) * P.bytesOf e ≤ roomB)
    (h1 : ∀ l', upd H l none l' = none → (∀ l2, (upd H l none l2).isSome = true → (l2 = l') = False ∧ (l' = l2) = False) → Tops P ops rest (St.mk (updO E dst (.arr l' n 0 (len + ys.length))) (upd (upd H l none) l' (some (.row true n (xs.take len ++ ys))))) K) :
    Tops P ops (⟨dst, .call ⟨.builtin .append, #[x, y], #[t0, t1]⟩, ty, pos, af, none⟩ :: rest) (St.mk E H) K :=
  t_appendB happ hn hx hy hr hlen hw hroom fun l' hl' => by
    have := h1 l' (upd_fresh hl') (fresh_ne (upd_fresh hl'))
    cases dst <;> exact this
theorem me_appendB {x y : Operand} {t0 t1 e : TypeId} {l : Lab} {len : Nat} {xs ys : List PV} {n : Nat} (happ : appB P t0 t1 e = true) (hn : P.cellsOf e = n) (hx : evo (St.mk E H) x = .arr l n 0 len) (hr : ownRow H l n = some xs) (hlen : len ≤ xs.length)
    (hy : itemsOf H (evo (St.mk E H) y) = some ys) (hw : cellsB n ys = true) (hroom : (len + ys.length) * P.bytesOf e ≤ roomB)
    (h1 : ∀ l', upd H l none l' = none → (∀ l2, (upd H l none l2).isSome = true → (l2 = l') = False ∧ (l' = l2) = False) → TopsDm P false ops rest fl (upd (upd H l none) l' (some (.row true n (xs.take len ++ ys)))) (St.mk (updO E dst (.arr l' n 0 (len + ys.length))) (upd (upd H l none) l' (some (.row true n (xs.take len ++ ys))))) K) :
    TopsDm P false ops (⟨dst, .call ⟨.builtin .append, #[x, y], #[t0, t1]⟩, ty, pos, af, none⟩ :: rest) (true :: fl) Hr (St.mk E H) K := by
  refine m_trueE rfl (fun hc => by simp [userCall] at hc) ?_
  have := te_appendB (ops := ops) (rest := []) (dst := dst) (ty := ty) (pos := pos) (af := af) (K := fun s' => TopsDm P false ops rest fl s'.H s' K) happ hn hx hr hlen hy hw hroom (fun l' h1' h2' => h1 l' h1' h2')
  exact this
theorem te_conv {a b : TypeId} {x : Operand} (v : PV) (hv : convS P (St.mk E H) (.convert a b x) = some v) (h : Tops P ops rest (St.mk (updO E dst v) H) K) : Tops P ops (⟨dst, .convert a b x, ty, pos, af, none⟩ :: rest) (St.mk E H) K := by
  show Tguard _ _ _ _ _
  unfold Tguard
  simp only
  unfold Top
  simp only [isEff, Bool.false_eq_true, if_false]
  refine ⟨v, .inr hv, ?_⟩
  cases dst <;> exact h
theorem convS_eq (P : Program) (s : St) (a b : TypeId) (x : Operand) : convS P s (.convert a b x) = match P.underlying a, P.underlying b with
   | some (.slice e), some .string => match P.underlying e with
      | some (.int .u8) => match evo s x with
        | .str _ => none
        | v => (itemsOf s.H v).bind fun ys => (pvBytes ys).map .str
      | _ => none
    | some (.int _), some .string => match evo s x with
      | .int _ n => if 0 ≤ n ∧ n < 128 then some (.str [UInt8.ofNat n.toNat]) else none
      | _ => none
    | _, _ => none := rfl
def encY (b : UInt8) : PV := .int .u8 (b.toNat : Int)
theorem pvBytes_map : ∀ l : List UInt8, pvBytes (l.map encY) = some l
  | [] => rfl
  | b :: l => by
    have h : (b.toNat : Int) < 256 := by have := b.toNat_lt; omega
    simp only [List.map_cons, encY, pvBytes]
    rw [if_pos ⟨Int.natCast_nonneg _, h⟩]
    rw [pvBytes_map l]
    simp
attribute [go_sem] convS_eq pvBytes_map
def rm (L : List Lab) (H : Hp) : Hp := L.foldr (fun l H => upd H l none) H
theorem rm_nil (H : Hp) : rm [] H = H := rfl
theorem rm_cons (l : Lab) (L : List Lab) (H : Hp) : rm (l :: L) H = upd (rm L H) l none := rfl
theorem rm_sub : ∀ (L : List Lab) (H : Hp) (l : Lab) (c : Chunk), rm L H l = some c → H l = some c
  | [], _, _, _, h => h
  | a :: L, H, l, c, h => by
    rw [rm_cons] at h
    simp only [upd_apply] at h
    split at h
    · cases h
    · exact rm_sub L H l c h
def stLabs (l : List Oper) (s : St) : List Lab := l.filterMap fun o => match o.op with
  | .store _ a _ => match evo s a with
    | .ref l _ _ _ => some l
    | _ => none
  | _ => none
theorem stLabs_nil (s : St) : stLabs [] s = [] := rfl
theorem stLabs_cons (o : Oper) (l : List Oper) (s : St) : stLabs (o :: l) s = (match o.op with
  | .store _ a _ => match evo s a with
    | .ref l' _ _ _ => l' :: stLabs l s
    | _ => stLabs l s
  | _ => stLabs l s) := by
  unfold stLabs
  rw [List.filterMap_cons]
  obtain ⟨dst, op, ty, pos, af, g⟩ := o
  cases op <;> try rfl
  simp only
  split <;> rename_i h <;> (split at h <;> simp_all)
theorem te_drwK {id : Nat} {l : List Oper} {Q : X → St → Prop} {fl : List Bool} {L : List Lab} (hfl : effFl l = fl) (hok : drawOK true l.toArray fl = true) (hL : stLabs l ⟨E, H⟩ = L) (h : TopsDm P true l.toArray l fl (rm L H) ⟨E, H⟩ (Q .normal)) : T P (.region id l.toArray true) ⟨E, H⟩ Q :=
  t_drawZ fl _ (rm_sub L H) hok h
theorem me_storeZ {t : TypeId} {a x : Operand} {l : Lab} {sz i off : Nat} {xs xs' : List PV} {e v : PV} (ha : evo (St.mk E H) a = .ref l sz i off) (hq : Hr l = none) (hsub : ∀ l c, Hr l = some c → H l = some c) (hr : ownRow H l sz = some xs) (hi : xs[i]? = some e) (hx : evo (St.mk E H) x = v) (hd : (v.isDef && v.cells.all PV.isCell && v.cells.length == P.cellsOf t && P.cellsOf t != 0 && decide (off + P.cellsOf t ≤ sz) && (e.isAgg || !v.isAgg)) = true) (hs : xs.set i (setC e off v) = xs')
    (h : TopsDm P true ops rest fl Hr (St.mk (updO E dst (.tup [])) (upd H l (some (.row true sz xs')))) K) : TopsDm P true ops (⟨dst, .store t a x, ty, pos, af, none⟩ :: rest) (true :: fl) Hr (St.mk E H) K := by
  refine m_trueZ rfl (fun hc => by simp [userCall] at hc) ?_
  unfold Tguard
  simp only [Bool.and_eq_true, beq_iff_eq, bne_iff_ne, decide_eq_true_eq, Bool.or_eq_true, Bool.not_eq_true'] at hd
  obtain ⟨⟨⟨⟨⟨h1, h2⟩, h3⟩, h4⟩, h5⟩, h6⟩ := hd
  simp only
  unfold Top
  simp only [isEff, if_true]
  refine ⟨rfl, l, sz, i, off, xs, e, ha, hr, hi, ?_⟩
  rw [hx]
  refine ⟨h1, h2, h3, h4, h5, h6, ?_⟩
  rw [hs]
  have hk : ∀ l' c, Hr l' = some c → upd H l (some (.row true sz xs')) l' = some c := fun l' c e' => by
    rw [upd_ne _ _ (fun e2 => by rw [e2, hq] at e'; cases e')]; exact hsub l' c e'
  cases dst <;> exact ⟨hk, h⟩
theorem upd_sub {Hr H : Hp} {l : Lab} {c : Option Chunk} (h : ∀ l c, Hr l = some c → H l = some c) (hq : Hr l = none) : ∀ l' c', Hr l' = some c' → upd H l c l' = some c' := fun l' c' e => by
  rw [upd_ne _ _ (fun e2 => by rw [e2, hq] at e; cases e)]; exact h l' c' e
attribute [go_sem] rm_nil rm_cons stLabs_nil stLabs_cons
theorem or_ne {H : Hp} {l l' : Lab} (h : H l' = none ∨ l' = l) (l2 : Lab) (hs : (upd H l none l2).isSome = true) : (l2 = l') = False ∧ (l' = l2) = False := by
  have h0 : upd H l none l' = none := by
    simp only [upd_apply]
    split
    · rfl
    · rename_i e; exact h.resolve_right e
  exact fresh_ne h0 l2 hs
theorem te_drwH {id : Nat} {l : List Oper} {Q : X → St → Prop} {fl : List Bool} (l1 l2 : Lab) (hfl : effFl l = fl) (hok : drawOK false l.toArray fl = true) (h : TopsDm P false l.toArray l fl (upd (upd H l1 none) l2 none) ⟨E, H⟩ (Q .normal)) : T P (.region id l.toArray true) ⟨E, H⟩ Q :=
  t_drawH fl _ (fun l' c e => by
    simp only [upd_apply] at e
    split at e
    · cases e
    · split at e
      · cases e
      · exact e) hok h
theorem me_appendQ {x y : Operand} {t0 t1 e : TypeId} {l : Lab} {len : Nat} {xs ys : List PV} {n : Nat} (happ : appB P t0 t1 e = true) (hn : P.cellsOf e = n) (hx : evo (St.mk E H) x = .arr l n 0 len) (hq : Hr l = none) (hr : ownRow H l n = some xs) (hlen : len ≤ xs.length)
    (hy : itemsOf Hr (evo (St.mk E H) y) = some ys) (hw : cellsB n ys = true) (hroom : (len + ys.length) * P.bytesOf e ≤ roomB)
    (h1 : ∀ l', (H l' = none ∨ l' = l) → TopsDm P zb ops rest fl Hr (St.mk (updO E dst (.arr l' n 0 (len + ys.length))) (upd H l' (some (.row true n (xs.take len ++ ys))))) K) :
    TopsDm P zb ops (⟨dst, .call ⟨.builtin .append, #[x, y], #[t0, t1]⟩, ty, pos, af, none⟩ :: rest) (false :: fl) Hr (St.mk E H) K := by
  obtain ⟨hu, hsrc, hz, hc, hb⟩ := appB_spec happ
  subst hn
  refine m_false rfl ?_
  show Tguard _ _ _ _ _
  unfold Tguard
  simp only
  unfold TopQ
  refine ⟨t0, t1, x, y, e, rfl, rfl, hu, hsrc, ys, hy, cellsB_spec hw, hz, hc, hb, .inr ⟨l, len, xs, hx, hq, hr, hlen, hroom, fun l' hl' => ?_⟩⟩
  cases dst <;> exact h1 l' hl'
theorem me_appendL {x y : Operand} {t0 t1 e : TypeId} {k : LK} {xs ys : List PV} {n : Nat} (happ : appB P t0 t1 e = true) (hn : P.cellsOf e = n) (hx : evo (St.mk E H) x = .list k xs) (hy : itemsOf H (evo (St.mk E H) y) = some ys) (hk : k.loose = false) (hne : ys.isEmpty = false) (hxw : widthB n xs = true) (hw : cellsB n ys = true) (hroom : (xs.length + ys.length) * P.bytesOf e ≤ roomB)
    (h1 : ∀ l, H l = none → (∀ l', (H l').isSome = true → (l' = l) = False ∧ (l = l') = False) → TopsDm P false ops rest fl (upd H l (some (.row true n (xs ++ ys)))) (St.mk (updO E dst (.arr l n 0 (xs.length + ys.length))) (upd H l (some (.row true n (xs ++ ys))))) K) :
    TopsDm P false ops (⟨dst, .call ⟨.builtin .append, #[x, y], #[t0, t1]⟩, ty, pos, af, none⟩ :: rest) (true :: fl) Hr (St.mk E H) K := by
  refine m_trueE rfl (fun hc => by simp [userCall] at hc) ?_
  have := te_append (ops := ops) (rest := []) (dst := dst) (ty := ty) (pos := pos) (af := af) (K := fun s' => TopsDm P false ops rest fl s'.H s' K) happ hn hx hy hk hxw hw hroom (fun h => by rw [h] at hne; cases hne) (fun _ l hl hl2 => h1 l hl hl2)
  exact this
theorem te_appendE {x y : Operand} {t0 t1 e : TypeId} {k : LK} {xs ys : List PV} {n : Nat} (happ : appB P t0 t1 e = true) (hn : P.cellsOf e = n) (hx : evo (St.mk E H) x = .list k xs) (hy : itemsOf H (evo (St.mk E H) y) = some ys) (hk : k.loose = false) (he : ys.isEmpty = true) (hxw : widthB n xs = true) (hroom : xs.length * P.bytesOf e ≤ roomB)
    (h0 : Tops P ops rest (St.mk (updO E dst (.list k xs)) H) K) : Tops P ops (⟨dst, .call ⟨.builtin .append, #[x, y], #[t0, t1]⟩, ty, pos, af, none⟩ :: rest) (St.mk E H) K := by
  obtain rfl : ys = [] := List.isEmpty_iff.1 he
  exact te_append happ hn hx hy hk hxw rfl (by simpa using hroom) (fun _ => h0) (fun h => absurd rfl h)
theorem te_appendL {x y : Operand} {t0 t1 e : TypeId} {k : LK} {xs ys : List PV} {n : Nat} (happ : appB P t0 t1 e = true) (hn : P.cellsOf e = n) (hx : evo (St.mk E H) x = .list k xs) (hy : itemsOf H (evo (St.mk E H) y) = some ys) (hk : k.loose = false) (hne : ys.isEmpty = false) (hxw : widthB n xs = true) (hw : cellsB n ys = true) (hroom : (xs.length + ys.length) * P.bytesOf e ≤ roomB)
    (h1 : ∀ l, H l = none → (∀ l', (H l').isSome = true → (l' = l) = False ∧ (l = l') = False) → Tops P ops rest (St.mk (updO E dst (.arr l n 0 (xs.length + ys.length))) (upd H l (some (.row true n (xs ++ ys))))) K) :
    Tops P ops (⟨dst, .call ⟨.builtin .append, #[x, y], #[t0, t1]⟩, ty, pos, af, none⟩ :: rest) (St.mk E H) K :=
  te_append happ hn hx hy hk hxw hw hroom (fun h => by rw [h] at hne; cases hne) (fun _ l hl hl2 => h1 l hl hl2)
theorem me_appendU {x y : Operand} {t0 t1 e : TypeId} {k : LK} {xs ys : List PV} {n : Nat} (happ : appB P t0 t1 e = true) (hn : P.cellsOf e = n) (hx : evo (St.mk E H) x = .list k xs) (hy : itemsOf Hr (evo (St.mk E H) y) = some ys) (hk : k.loose = false) (hne : ys.isEmpty = false) (hxw : widthB n xs = true) (hw : cellsB n ys = true) (hroom : (xs.length + ys.length) * P.bytesOf e ≤ roomB)
    (h1 : ∀ l, H l = none → (∀ l', (H l').isSome = true → (l' = l) = False ∧ (l = l') = False) → TopsDm P zb ops rest fl Hr (St.mk (updO E dst (.arr l n 0 (xs.length + ys.length))) (upd H l (some (.row true n (xs ++ ys))))) K) :
    TopsDm P zb ops (⟨dst, .call ⟨.builtin .append, #[x, y], #[t0, t1]⟩, ty, pos, af, none⟩ :: rest) (false :: fl) Hr (St.mk E H) K :=
  me_append happ hn hx hy hk hxw hw hroom (fun h => by rw [h] at hne; cases hne) (fun _ l hl hl2 => h1 l hl hl2)
theorem widthB_nil (n : Nat) : widthB n [] = true := rfl
theorem widthB_cons (n : Nat) (v : PV) (vs : List PV) : widthB n (v :: vs) = (v.cells.length == n && widthB n vs) := rfl
attribute [go_sem] widthB_nil widthB_cons List.isEmpty_cons
theorem pendK {fn : Func} {s : St} {r v : PV} {rs : Array ResultVar} (hr : fn.results = rs) (hv : resVal P rs s = some v) (hn : norm true s.H 8 v = some r) : PureEnd P fn r .ret s :=
  ⟨.inr rfl, v, true, 8, by rw [hr]; exact hv, hn⟩
theorem callN_of_T {f : FuncId} {fn : Func} {c : Code} (h : FnOK P f fn c) {as : List PV} {sz : Nat} {xs : List PV} (hl : as.length ≤ fn.ntmps)
    (hT : T P c ⟨argEnv as, fun _ => none⟩ (fun x s => (x = .normal ∨ x = .ret) ∧ ∃ l, resVal P fn.results s = some (.arr l sz 0 xs.length) ∧ s.H l = some (.row true sz xs))) : CallN P f as sz xs :=
  callsG_of_T h hl (T_mono _ _ _ _ (fun x s hx => ⟨hx.1, by obtain ⟨l, h1, h2⟩ := hx.2; exact ⟨_, s.H, h1, fun _ _ h => h, l, rfl, h2⟩⟩) hT)
theorem nend {fn : Func} {s : St} {rs : Array ResultVar} {l : Lab} {sz n : Nat} {xs : List PV} (hr : fn.results = rs) (hv : resVal P rs s = some (.arr l sz 0 n)) (hn : n = xs.length) (hH : s.H l = some (.row true sz xs)) :
    (X.ret = X.normal ∨ X.ret = X.ret) ∧ ∃ l, resVal P fn.results s = some (.arr l sz 0 xs.length) ∧ s.H l = some (.row true sz xs) :=
  ⟨.inr rfl, l, by rw [hr, ← hn]; exact hv, hH⟩
theorem gend {fn : Func} {s : St} {rs : Array ResultVar} {v : PV} {H' : Hp} {K : PV → Hp → Prop} (hr : fn.results = rs) (hv : resVal P rs s = some v) (hs : ∀ l c, H' l = some c → s.H l = some c) (hK : K v H') :
    (X.ret = X.normal ∨ X.ret = X.ret) ∧ ∃ v H', resVal P fn.results s = some v ∧ (∀ l c, H' l = some c → s.H l = some c) ∧ K v H' :=
  ⟨.inr rfl, v, H', by rw [hr]; exact hv, hs, hK⟩
theorem sub1 {H Hc : Hp} {l : Lab} {c : Chunk} (h1 : Hc l = some c) (h2 : ∀ x d, H x = some d → Hc x = some d) : ∀ x d, upd H l (some c) x = some d → Hc x = some d := by
  intro x d h
  simp only [upd_apply] at h
  split at h
  · rename_i e; subst e; rw [h1]; exact h
  · exact h2 x d h
theorem upd_none {H : Hp} {a l : Lab} {c : Chunk} (h : upd H a (some c) l = none) : l ≠ a ∧ H l = none := by
  simp only [upd_apply] at h
  split at h
  · cases h
  · rename_i e; exact ⟨e, h⟩
theorem mapM_closed {H : Hp} {k : Bool} {n : Nat} {xs : List PV} (h : xs.all (closedB k) = true) : xs.mapM (norm k H (n + 1)) = some xs := by
  induction xs with
  | nil => rfl
  | cons x xs ih =>
    simp only [List.all_cons, Bool.and_eq_true] at h
    rw [List.mapM_cons, norm_closed h.1, ih h.2]
    rfl
theorem mapM_closed7 {H : Hp} {k : Bool} {xs : List PV} (h : xs.all (closedB k) = true) : xs.mapM (norm k H 7) = some xs := mapM_closed h
theorem mapM_closed6 {H : Hp} {k : Bool} {xs : List PV} (h : xs.all (closedB k) = true) : xs.mapM (norm k H 6) = some xs := mapM_closed h
theorem mapM_closed5 {H : Hp} {k : Bool} {xs : List PV} (h : xs.all (closedB k) = true) : xs.mapM (norm k H 5) = some xs := mapM_closed h
end
theorem PPure.full_of_nil {P : Program} {f : FuncId} {as : List PV} (h : PPure P f as (.list .nil [])) : PPure P f as (.list .full []) :=
  ⟨h.1, fun w X vs hX hv => (h.2 w X vs hX hv).mono fun e w' ⟨v, he, hb, hr⟩ => ⟨v, he, hb, by
    cases hr with
    | list _ _ a cap sz cs g1 g2 g3 g4 g5 g6 g7 => exact .list .full [] a cap sz cs g1 nofun ⟨fun _ => (g2 rfl).2, nofun, g3.2.2⟩ g4 g5 g6 g7⟩⟩
end Go.Proofs.Ythdgdngdfijfhaa
namespace Go.Proofs.Ythdgdngdfijfhaa
open Go.RowKit
set_option linter.unusedVariables false
inductive Wv : PV → PV → Prop where
  | refl (p : PV) : Wv p p
  | nil (k : LK) (l : Lab) (sz lo : Nat) (h : k.loose = false) : Wv (.list k []) (.arr l sz lo 0)
  | agg (ps qs : List PV) (hl : ps.length = qs.length) (h : ∀ (i : Nat) p q, ps[i]? = some p → qs[i]? = some q → Wv p q) : Wv (.agg ps) (.agg qs)
def WvL (ps qs : List PV) : Prop := ps.length = qs.length ∧ ∀ (i : Nat) p q, ps[i]? = some p → qs[i]? = some q → Wv p q
theorem WvL.refl (ps : List PV) : WvL ps ps := ⟨rfl, fun i p q h1 h2 => by rw [h1] at h2; cases h2; exact .refl _⟩
theorem WvL.nil : WvL [] [] := WvL.refl _
theorem WvL.cons {p q : PV} {ps qs : List PV} (h : Wv p q) (t : WvL ps qs) : WvL (p :: ps) (q :: qs) :=
  ⟨by simp [t.1], fun i a b h1 h2 => by
    cases i with
    | zero => simp at h1 h2; subst h1; subst h2; exact h
    | succ i => simp at h1 h2; exact t.2 i a b h1 h2⟩
theorem Wv.aggL {ps qs : List PV} (h : WvL ps qs) : Wv (.agg ps) (.agg qs) := .agg _ _ h.1 h.2
theorem Wv.cells {p q : PV} (h : Wv p q) : WvL p.cells q.cells := by
  cases h with
  | refl => exact WvL.refl _
  | nil k l sz lo h => exact WvL.cons (.nil k l sz lo h) WvL.nil
  | agg ps qs hl h => exact ⟨hl, h⟩
theorem VR.wv {w : World} {O : Nat → Prop} {p q : PV} (h : Wv p q) : ∀ {v : Value}, VR w O v p → VR w O v q := by
  induction h with
  | refl => exact id
  | nil k l sz lo h =>
    intro v hv
    obtain ⟨a, cap, rfl, hc⟩ := hv.tight
    rw [hc h]
    exact .arr0 l sz lo a
  | agg ps qs hl h ih =>
    intro v hv
    obtain ⟨vs, rfl, hs, hel⟩ := hv.agg_inv
    refine .agg qs vs (by omega) (fun i v q hv hq => ?_)
    have hi : i < ps.length := by have := (List.getElem?_eq_some_iff.1 hq).1; omega
    exact ih i ps[i] q (List.getElem?_eq_getElem hi) hq (hel i v ps[i] hv (List.getElem?_eq_getElem hi))
theorem WvL.flat : ∀ {xs ys : List PV}, WvL xs ys → WvL (flat xs) (flat ys)
  | [], [], _ => WvL.nil
  | [], _ :: _, h => by cases h.1
  | _ :: _, [], h => by cases h.1
  | x :: xs, y :: ys, h => by
    have h0 := (h.2 0 x y rfl rfl).cells
    have ht : WvL xs ys := ⟨by simpa using h.1, fun i p q h1 h2 => h.2 (i + 1) p q (by simpa using h1) (by simpa using h2)⟩
    have h1 := ht.flat
    rw [flat_cons, flat_cons]
    refine ⟨by simp [h0.1, h1.1], fun i p q hp hq => ?_⟩
    by_cases hi : i < x.cells.length
    · rw [List.getElem?_append_left hi] at hp
      rw [List.getElem?_append_left (by rw [← h0.1]; exact hi)] at hq
      exact h0.2 i p q hp hq
    · rw [List.getElem?_append_right (by omega)] at hp
      rw [List.getElem?_append_right (by rw [← h0.1]; omega), ← h0.1] at hq
      exact h1.2 _ p q hp hq
def hp : List (Lab × Chunk) → Hp
  | [] => fun _ => none
  | (l, c) :: r => upd (hp r) l (some c)
theorem hp_nil (l : Lab) : hp [] l = none := rfl
theorem hp_cons (l : Lab) (c : Chunk) (r : List (Lab × Chunk)) (x : Lab) : hp ((l, c) :: r) x = if x = l then some c else hp r x := rfl
attribute [go_sem] hp_nil hp_cons
theorem hp_mem : ∀ (r : List (Lab × Chunk)) (l : Lab) (c : Chunk), hp r l = some c → (l, c) ∈ r
  | [], _, _, h => by cases h
  | (l', c') :: r, l, c, h => by
    rw [hp_cons] at h
    split at h
    · rename_i e; subst e; cases h; exact List.mem_cons_self
    · exact List.mem_cons_of_mem _ (hp_mem r l c h)
def gnum : Lab → Nat
  | .real _ => 0
  | .ghost g => g
theorem hp_GB : ∀ r : List (Lab × Chunk), GB (hp r)
  | [] => ⟨0, fun _ _ => rfl⟩
  | (l, c) :: r => by
    obtain ⟨B, h⟩ := hp_GB r
    refine ⟨max B (gnum l + 1), fun g hg => ?_⟩
    rw [hp_cons, if_neg (by rintro rfl; simp [gnum] at hg; omega)]
    exact h g (by omega)
theorem ghost_new (N : Nat) (L : List Lab) : ∃ l : Lab, (∃ g, l = .ghost g ∧ N ≤ g) ∧ ∀ l' ∈ L, (l' = l) = False ∧ (l = l') = False := by
  induction L generalizing N with
  | nil => exact ⟨.ghost N, ⟨N, rfl, Nat.le_refl _⟩, fun _ h => by cases h⟩
  | cons a L ih =>
    obtain ⟨l, ⟨g, rfl, hg⟩, h⟩ := ih (max N (gnum a + 1))
    refine ⟨_, ⟨g, rfl, by omega⟩, fun l' hl' => ?_⟩
    rcases List.mem_cons.1 hl' with rfl | h'
    · have : l' ≠ .ghost g := by rintro rfl; simp [gnum] at hg; omega
      exact ⟨eq_false this, eq_false (Ne.symm this)⟩
    · exact h l' h'
def RowOK (N : Nat) (H : Hp) (l : Lab) : Chunk → Prop
  | .row m sz ys => (∃ xs, H l = some (.row m sz xs) ∧ WvL xs ys) ∨ ((∃ g, l = .ghost g ∧ N ≤ g) ∧ ys = [])
theorem rowok_eq {N : Nat} {H : Hp} {l : Lab} {c : Chunk} (h : H l = some c) : RowOK N H l c := by
  cases c; exact .inl ⟨_, h, WvL.refl _⟩
theorem rowok_wv {N : Nat} {H : Hp} {l : Lab} {m : Bool} {sz : Nat} {xs ys : List PV} (h : H l = some (.row m sz xs)) (hw : WvL xs ys) : RowOK N H l (.row m sz ys) := .inl ⟨xs, h, hw⟩
theorem rowok_ghost {N : Nat} {H : Hp} {l : Lab} {m : Bool} {sz : Nat} (h : ∃ g, l = .ghost g ∧ N ≤ g) : RowOK N H l (.row m sz []) := .inr ⟨h, rfl⟩
def RowsOK (N : Nat) (H : Hp) (r : List (Lab × Chunk)) : Prop := ∀ q ∈ r, RowOK N H q.1 q.2
theorem rowsok_nil {N : Nat} {H : Hp} : RowsOK N H [] := fun _ h => by cases h
theorem rowsok_cons {N : Nat} {H : Hp} {l : Lab} {c : Chunk} {r : List (Lab × Chunk)} (h : RowOK N H l c) (t : RowsOK N H r) : RowsOK N H ((l, c) :: r) := fun q hq => by
  rcases List.mem_cons.1 hq with rfl | h'
  · exact h
  · exact t q h'
def WkE (c : Code) (E E2 : Nat → PV) : Prop := ∀ t, E2 t = E t ∨ (wrs t c = true ∧ Wv (E t) (E2 t))
theorem wkE_id {c : Code} {E : Nat → PV} : WkE c E E := fun _ => .inl rfl
theorem wkE_upd {c : Code} {E E2 : Nat → PV} {t : Nat} {v : PV} (h : WkE c E E2) (hw : wrs t c = true) (hv : Wv (E t) v) : WkE c E (upd E2 t v) := fun t' => by
  by_cases e : t' = t
  · subst e; exact .inr ⟨hw, by rw [upd_same]; exact hv⟩
  · rw [upd_ne _ _ e]; exact h t'
theorem wk_mk {P : Program} {c : Code} {N : Nat} {E E2 : Nat → PV} {H : Hp} {r : List (Lab × Chunk)} (hE : WkE c E E2) (hH : RowsOK N H r) : Wk P c N ⟨E, H⟩ ⟨E2, hp r⟩ := by
  refine ⟨fun t ht => ?_, ?_⟩
  · rcases hE t with h | ⟨h, _⟩
    · exact h
    · rw [ht] at h; cases h
  intro γ n w0 O0 X a w hN h
  have row : ∀ l m sz ys, hp r l = some (.row m sz ys) → (∃ xs, H l = some (.row m sz xs) ∧ WvL xs ys) ∨ ((∃ g, l = .ghost g ∧ N ≤ g) ∧ ys = []) := fun l m sz ys e => hH _ (hp_mem r l _ e)
  have ho : ∀ b, own (hp r) b → own H b := fun b ⟨sz, ys, e⟩ => by
    rcases row _ _ _ _ e with ⟨xs, e, _⟩ | ⟨⟨g, e, _⟩, _⟩
    · exact ⟨sz, xs, e⟩
    · cases e
  have mono : ∀ {v p q}, VR w (both X H) v p → Wv p q → VR w (both X (hp r)) v q := fun hv hw => (hv.wv hw).less (fun b _ hb => hb.imp id (ho b))
  refine ⟨h.size, h.defers, fun i => ?_, ?_, h.fr, fun b hb => h.new b (ho b hb), h.lt, ?_, hp_GB r⟩
  · show VR w (both X (hp r)) _ (E2 i)
    rcases hE i with e | ⟨_, hw⟩
    · rw [e]; exact mono (h.env i) (.refl _)
    · exact mono (h.env i) hw
  · intro l m sz ys e
    rcases row l m sz ys e with ⟨xs, e, hw⟩ | ⟨⟨g, rfl, _⟩, rfl⟩
    · obtain ⟨h1, h2⟩ := h.heap _ _ _ _ e
      refine ⟨fun y hy => ?_, ?_⟩
      · obtain ⟨i, hi, rfl⟩ := List.mem_iff_getElem.1 hy
        have hi' : i < xs.length := by rw [hw.1]; exact hi
        have := (hw.2 i _ _ (List.getElem?_eq_getElem hi') (List.getElem?_eq_getElem hi)).cells.1
        rw [← this]
        exact h1 _ (List.getElem_mem hi')
      · cases l with
        | real b =>
          obtain ⟨h3, cs, t, hb, h4, h5⟩ := h2
          have hf := hw.flat
          refine ⟨h3, cs, t, hb, by rw [← hf.1]; exact h4, fun i v q hv hq => ?_⟩
          have hi : i < (flat xs).length := by rw [hf.1]; exact (List.getElem?_eq_some_iff.1 hq).1
          exact mono (h5 i v _ hv (List.getElem?_eq_getElem hi)) (hf.2 i _ _ (List.getElem?_eq_getElem hi) hq)
        | ghost g =>
          have h2 : xs = [] := h2
          subst h2
          exact List.eq_nil_of_length_eq_zero hw.1.symm
    · exact ⟨fun _ h => (by cases h), rfl⟩
  · intro g c e
    obtain ⟨m, sz, ys⟩ := c
    rcases row _ _ _ _ e with ⟨xs, e, _⟩ | ⟨⟨g', e, hg⟩, _⟩
    · exact h.gs.1 g _ e
    · cases e; exact .inr (by rw [hN]; exact hg)
def KinvX (P : Program) (c : Code) (I : Nat → (Nat → PV) → Hp → Prop) (k : Nat) (Q : X → St → Prop) (x : X) (s : St) : Prop :=
  match x with
  | .normal => ∃ k', k' < k ∧ ∀ N, ∃ E2 r, WkE c s.env E2 ∧ RowsOK N s.H r ∧ I k' E2 (hp r)
  | x => Q x s
section
variable {P : Program} {E : Nat → PV} {H : Hp}
theorem t_loopX {c : Code} {Q : X → St → Prop} (I : Nat → (Nat → PV) → Hp → Prop) (k : Nat) (h0 : ∀ N, ∃ E2 r, WkE c E E2 ∧ RowsOK N H r ∧ I k E2 (hp r))
    (step : ∀ k E' H', (∀ t, wrs t c = false → E' t = E t) → I k E' H' → T P c ⟨E', H'⟩ (KinvX P c I k Q)) : T P (.loop c) ⟨E, H⟩ Q :=
  t_loopFW (fun k s => I k s.env s.H) k (fun N => let ⟨E2, r, h1, h2, h3⟩ := h0 N; ⟨⟨E2, hp r⟩, wk_mk h1 h2, h3⟩) fun k s hf hi => T_mono c _ _ _ (fun x s' h => by
    cases x with
    | normal =>
      obtain ⟨k', hk, h⟩ := h
      exact ⟨k', hk, fun N => let ⟨E2, r, h1, h2, h3⟩ := h N; ⟨⟨E2, hp r⟩, wk_mk h1 h2, h3⟩⟩
    | exit id => exact h
    | ret => exact h) (step k s.env s.H hf hi)
theorem k_invX {c : Code} {I : Nat → (Nat → PV) → Hp → Prop} {k : Nat} {Q : X → St → Prop} (k' : Nat) (hlt : k' < k) (h : ∀ N, ∃ E2 r, WkE c E E2 ∧ RowsOK N H r ∧ I k' E2 (hp r)) : KinvX P c I k Q .normal ⟨E, H⟩ := ⟨k', hlt, h⟩
theorem k_invX_exit {c : Code} {I : Nat → (Nat → PV) → Hp → Prop} {k : Nat} {Q : X → St → Prop} {s : St} {id : Nat} (h : Q (.exit id) s) : KinvX P c I k Q (.exit id) s := h
theorem k_invX_ret {c : Code} {I : Nat → (Nat → PV) → Hp → Prop} {k : Nat} {Q : X → St → Prop} {s : St} (h : Q .ret s) : KinvX P c I k Q .ret s := h
end
theorem take_len_map {α β : Type} (f : α → β) (l : List α) : List.take l.length (l.map f) = l.map f := List.take_of_length_le (by simp)
theorem take_len_self {α : Type} (l : List α) : List.take l.length l = l := List.take_of_length_le (Nat.le_refl _)
theorem ile_self (a : Int) : (a ≤ a) = True := eq_true (Int.le_refl a)
theorem beq_tf : (true == false) = false := rfl
theorem beq_ft : (false == true) = false := rfl
theorem beq_tt : (true == true) = true := rfl
theorem beq_ff : (false == false) = true := rfl
attribute [go_sem] beq_tf beq_ft beq_tt beq_ff take_len_map take_len_self ile_self mapM_closed7 mapM_closed6 mapM_closed5
end Go.Proofs.Ythdgdngdfijfhaa
namespace Go.Proofs.Ythdgdngdfijfhaa
open Go.RowKit
set_option linter.unusedVariables false
section
variable {zb : Bool} {P : Program} {E : Nat → PV} {H : Hp} {ops : Array Oper} {K : St → Prop} {dst : Option Tmp} {ty : TypeId} {pos : String} {af : Array Edge} {Hr : Hp} {fl : List Bool} {rest : List Oper} {s : St}
theorem ae_val {op : Op} {v : PV} (h : Tops P ops rest (St.mk (updO E dst v) H) K) (he : isEff op = false := by exact rfl) (hc : ∀ g args ts, op ≠ .call ⟨.value g, args, ts⟩ := by (intro _ _ _ h; cases h)) (hv : opVal P (St.mk E H) op = some v := by (simp (maxDischargeDepth := 8) only [go_sem, hNE, hA]; first | done | exact rfl)) :
    Tops P ops (⟨dst, op, ty, pos, af, none⟩ :: rest) (St.mk E H) K := te_val v he hc hv h
theorem ae_callS {g : Operand} {args : Array Operand} {ts : Array TypeId} {f : Nat} {caps as as' : List PV} {r : PV} (h : Tops P ops rest (St.mk (updO E dst r) H) K) (hg : evo (St.mk E H) g = .fn f caps := by (simp (maxDischargeDepth := 8) only [go_sem, hNE, hA]; first | done | exact rfl)) (ha : args.toList.map (evo (St.mk E H)) ++ caps = as := by (simp (maxDischargeDepth := 8) only [go_sem, hNE, hA]; first | done | exact rfl)) (hn : as.mapM (norm false (restr [] H) 8) = some as' := by (simp (maxDischargeDepth := 8) only [go_sem, hNE, hA]; first | done | exact rfl)) (hp : PPure P f as' r := by (first | apply hP.1 | apply hP.2.1 | apply hP.2.2.1 | apply hP.2.2.2.1 | apply hP.2.2.2.2.1 | apply hP.2.2.2.2.2.1 | apply hP.2.2.2.2.2.2.1 | apply hP.2.2.2.2.2.2.2.1 | apply hP.2.2.2.2.2.2.2.2.1 | apply hP.2.2.2.2.2.2.2.2.2.1 | apply hP.2.2.2.2.2.2.2.2.2.2.1 | apply hP.2.2.2.2.2.2.2.2.2.2.2.1)) :
    Tops P ops (⟨dst, .call ⟨.value g, args, ts⟩, ty, pos, af, none⟩ :: rest) (St.mk E H) K := te_callS hg ha hn hp h
theorem ae_callO {g : Operand} {args : Array Operand} {ts : Array TypeId} {f : Nat} {caps as as' : List PV} {r : PV} (h : Tops P ops rest (St.mk (updO E dst r) H) K) (hg : evo (St.mk E H) g = .fn f caps := by (simp (maxDischargeDepth := 8) only [go_sem, hNE, hA]; first | done | exact rfl)) (ha : args.toList.map (evo (St.mk E H)) ++ caps = as := by (simp (maxDischargeDepth := 8) only [go_sem, hNE, hA]; first | done | exact rfl)) (hn : as.mapM (norm false H 8) = some as' := by (simp (maxDischargeDepth := 8) only [go_sem, hNE, hA]; first | done | exact rfl)) (hp : PPure P f as' r := by (first | apply hP.1 | apply hP.2.1 | apply hP.2.2.1 | apply hP.2.2.2.1 | apply hP.2.2.2.2.1 | apply hP.2.2.2.2.2.1 | apply hP.2.2.2.2.2.2.1 | apply hP.2.2.2.2.2.2.2.1 | apply hP.2.2.2.2.2.2.2.2.1 | apply hP.2.2.2.2.2.2.2.2.2.1 | apply hP.2.2.2.2.2.2.2.2.2.2.1 | apply hP.2.2.2.2.2.2.2.2.2.2.2.1)) (hs : scalarB r = true := by exact rfl) :
    Tops P ops (⟨dst, .call ⟨.value g, args, ts⟩, ty, pos, af, none⟩ :: rest) (St.mk E H) K := te_callO hg ha hn hp hs h
theorem ae_gval {op : Op} {j : Nat} {want : Bool} {d : Tmp} {b : Bool} {v : PV} (h : Tops P ops rest (St.mk (updO E dst (if b = want then v else .tup [])) H) K) (hd : (ops[j]?).bind (·.dst) = some d := by exact rfl) (hb : E d = .bool b := by (simp (maxDischargeDepth := 8) only [go_sem, hNE, hA]; first | done | exact rfl)) (he : isEff op = false := by exact rfl) (hc : ∀ g args ts, op ≠ .call ⟨.value g, args, ts⟩ := by (intro _ _ _ h; cases h)) (hv : b = want → opVal P (St.mk E H) op = some v := by (intro hG; simp (maxDischargeDepth := 8) only [go_sem, hNE, hA, hG]; first | done | exact rfl)) :
    Tops P ops (⟨dst, op, ty, pos, af, some (j, want)⟩ :: rest) (St.mk E H) K := te_gval b v hd hb he hc hv h
theorem ae_gcallS {g : Operand} {args : Array Operand} {ts : Array TypeId} {j : Nat} {want : Bool} {d : Tmp} {b : Bool} {f : Nat} {caps as : List PV} {r : PV} (h : Tops P ops rest (St.mk (updO E dst (if b = want then r else .tup [])) H) K) (hd : (ops[j]?).bind (·.dst) = some d := by exact rfl) (hb : E d = .bool b := by (simp (maxDischargeDepth := 8) only [go_sem, hNE, hA]; first | done | exact rfl)) (hg : evo (St.mk E H) g = .fn f caps := by (simp (maxDischargeDepth := 8) only [go_sem, hNE, hA]; first | done | exact rfl)) (ha : b = want → args.toList.map (evo (St.mk E H)) ++ caps = as := by (intro hG; simp (maxDischargeDepth := 8) only [go_sem, hNE, hA, hG]; first | done | exact rfl)) (hc : as.all (closedB false) = true := by (simp (maxDischargeDepth := 8) only [go_sem, hNE, hA]; first | done | exact rfl)) (hp : b = want → PPure P f as r := by (intro hG; first | apply hP.1 | apply hP.2.1 | apply hP.2.2.1 | apply hP.2.2.2.1 | apply hP.2.2.2.2.1 | apply hP.2.2.2.2.2.1 | apply hP.2.2.2.2.2.2.1 | apply hP.2.2.2.2.2.2.2.1 | apply hP.2.2.2.2.2.2.2.2.1 | apply hP.2.2.2.2.2.2.2.2.2.1 | apply hP.2.2.2.2.2.2.2.2.2.2.1 | apply hP.2.2.2.2.2.2.2.2.2.2.2.1)) :
    Tops P ops (⟨dst, .call ⟨.value g, args, ts⟩, ty, pos, af, some (j, want)⟩ :: rest) (St.mk E H) K := te_gcallS hd hb hg ha hc hp h
theorem ae_gcallO {g : Operand} {args : Array Operand} {ts : Array TypeId} {j : Nat} {want : Bool} {d : Tmp} {b : Bool} {f : Nat} {caps as as' : List PV} {r : PV} (h : Tops P ops rest (St.mk (updO E dst (if b = want then r else .tup [])) H) K) (hd : (ops[j]?).bind (·.dst) = some d := by exact rfl) (hb : E d = .bool b := by (simp (maxDischargeDepth := 8) only [go_sem, hNE, hA]; first | done | exact rfl)) (hg : evo (St.mk E H) g = .fn f caps := by (simp (maxDischargeDepth := 8) only [go_sem, hNE, hA]; first | done | exact rfl)) (ha : b = want → args.toList.map (evo (St.mk E H)) ++ caps = as := by (intro hG; simp (maxDischargeDepth := 8) only [go_sem, hNE, hA, hG]; first | done | exact rfl)) (hn : b = want → as.mapM (norm false H 8) = some as' := by (intro hG; simp (maxDischargeDepth := 8) only [go_sem, hNE, hA, hG]; first | done | exact rfl)) (hp : b = want → PPure P f as' r := by (intro hG; first | apply hP.1 | apply hP.2.1 | apply hP.2.2.1 | apply hP.2.2.2.1 | apply hP.2.2.2.2.1 | apply hP.2.2.2.2.2.1 | apply hP.2.2.2.2.2.2.1 | apply hP.2.2.2.2.2.2.2.1 | apply hP.2.2.2.2.2.2.2.2.1 | apply hP.2.2.2.2.2.2.2.2.2.1 | apply hP.2.2.2.2.2.2.2.2.2.2.1 | apply hP.2.2.2.2.2.2.2.2.2.2.2.1)) (hs : scalarB r = true := by exact rfl) :
    Tops P ops (⟨dst, .call ⟨.value g, args, ts⟩, ty, pos, af, some (j, want)⟩ :: rest) (St.mk E H) K := te_gcallO hd hb hg ha hn hp hs h
theorem ae_gno {op : Op} {j : Nat} {want b : Bool} {d : Tmp} (h : Tops P ops rest (St.mk (updO E dst (.tup [])) H) K) (hd : (ops[j]?).bind (·.dst) = some d := by exact rfl) (hb : E d = .bool b := by (simp (maxDischargeDepth := 8) only [go_sem, hNE, hA]; first | done | exact rfl)) (hne : (b == want) = false := by exact rfl) :
    Tops P ops (⟨dst, op, ty, pos, af, some (j, want)⟩ :: rest) (St.mk E H) K := te_gno hd hb hne h
theorem ae_gskip {op : Op} {j : Nat} {want : Bool} {d : Tmp} (h : Tops P ops rest (St.mk (updO E dst (.tup [])) H) K) (hd : (ops[j]?).bind (·.dst) = some d := by exact rfl) (hb : E d = .tup [] := by (simp (maxDischargeDepth := 8) only [go_sem, hNE, hA]; first | done | exact rfl)) :
    Tops P ops (⟨dst, op, ty, pos, af, some (j, want)⟩ :: rest) (St.mk E H) K := te_gskip hd hb h
theorem ae_box {t : TypeId} {x : Operand} {v : PV} {cs : List PV} (h : Tops P ops rest (St.mk (updO E dst (.cptr cs)) H) K) (hx : evo (St.mk E H) x = v := by (simp (maxDischargeDepth := 8) only [go_sem, hNE, hA]; first | done | exact rfl)) (hd : v.isDef = true := by exact rfl) (hv : v.cells = cs := by (simp (maxDischargeDepth := 8) only [go_sem, hNE, hA]; first | done | exact rfl)) :
    Tops P ops (⟨dst, .box t x, ty, pos, af, none⟩ :: rest) (St.mk E H) K := te_box hx hd hv h
theorem ae_boxL {t : TypeId} {x : Operand} {v : PV} {n : Nat} (h : ∀ l, H l = none → (∀ l', (H l').isSome = true → (l' = l) = False ∧ (l = l') = False) → Tops P ops rest (St.mk (updO E dst (.ref l n 0 0)) (upd H l (some (.row true n [v])))) K) (hx : evo (St.mk E H) x = v := by (simp (maxDischargeDepth := 8) only [go_sem, hNE, hA]; first | done | exact rfl)) (hd : v.isDef = true := by exact rfl) (hn : v.cells.length = n := by exact rfl) :
    Tops P ops (⟨dst, .box t x, ty, pos, af, none⟩ :: rest) (St.mk E H) K := te_boxL hx hd hn h
theorem ae_alloc {t : TypeId} {z : PV} {n : Nat} (h : ∀ l, H l = none → (∀ l', (H l').isSome = true → (l' = l) = False ∧ (l = l') = False) → Tops P ops rest (St.mk (updO E dst (.ref l n 0 0)) (upd H l (some (.row true n [z])))) K) (hz : tzero P t = some z := by (simp (maxDischargeDepth := 8) only [go_sem, hNE, hA]; first | done | exact rfl)) (hd : z.isDef = true := by exact rfl) (hn : z.cells.length = n := by exact rfl) :
    Tops P ops (⟨dst, .alloc t, ty, pos, af, none⟩ :: rest) (St.mk E H) K := te_alloc hz hd hn h
theorem ae_store {t : TypeId} {a x : Operand} {l : Lab} {sz i off : Nat} {xs xs' : List PV} {e v : PV} (h : Tops P ops rest (St.mk (updO E dst (.tup [])) (upd H l (some (.row true sz xs')))) K) (ha : evo (St.mk E H) a = .ref l sz i off := by (simp (maxDischargeDepth := 8) only [go_sem, hNE, hA]; first | done | exact rfl)) (hr : ownRow H l sz = some xs := by (simp (maxDischargeDepth := 8) only [go_sem, hNE, hA]; first | done | exact rfl)) (hi : xs[i]? = some e := by (simp (maxDischargeDepth := 8) only [go_sem, hNE, hA]; first | done | exact rfl)) (hx : evo (St.mk E H) x = v := by (simp (maxDischargeDepth := 8) only [go_sem, hNE, hA]; first | done | exact rfl)) (hd : (v.isDef && v.cells.all PV.isCell && v.cells.length == P.cellsOf t && P.cellsOf t != 0 && decide (off + P.cellsOf t ≤ sz) && (e.isAgg || !v.isAgg)) = true := by (simp (maxDischargeDepth := 8) only [go_sem, hNE, hA]; first | done | exact rfl)) (hs : xs.set i (setC e off v) = xs' := by (simp (maxDischargeDepth := 8) only [go_sem, hNE, hA]; first | done | exact rfl)) :
    Tops P ops (⟨dst, .store t a x, ty, pos, af, none⟩ :: rest) (St.mk E H) K := te_store ha hr hi hx hd hs h
theorem ae_conv {a b : TypeId} {x : Operand} {v : PV} (h : Tops P ops rest (St.mk (updO E dst v) H) K) (hv : convS P (St.mk E H) (.convert a b x) = some v := by (simp (maxDischargeDepth := 8) only [go_sem, hNE, hA]; first | done | exact rfl)) :
    Tops P ops (⟨dst, .convert a b x, ty, pos, af, none⟩ :: rest) (St.mk E H) K := te_conv v hv h
theorem be_val {op : Op} {v : PV} (h : TopsDm P zb ops rest fl Hr (St.mk (updO E dst v) H) K) (he : isEff op = false := by exact rfl) (hc : ∀ g args ts, op ≠ .call ⟨.value g, args, ts⟩ := by (intro _ _ _ h; cases h)) (hv : opVal P (St.mk E Hr) op = some v := by (simp (maxDischargeDepth := 8) only [go_sem, hNE, hA]; first | done | exact rfl)) :
    TopsDm P zb ops (⟨dst, op, ty, pos, af, none⟩ :: rest) (false :: fl) Hr (St.mk E H) K := me_val v he hc hv h
theorem be_callS {g : Operand} {args : Array Operand} {ts : Array TypeId} {f : Nat} {caps as as' : List PV} {r : PV} (h : TopsDm P zb ops rest fl Hr (St.mk (updO E dst r) H) K) (hg : evo (St.mk E H) g = .fn f caps := by (simp (maxDischargeDepth := 8) only [go_sem, hNE, hA]; first | done | exact rfl)) (ha : args.toList.map (evo (St.mk E H)) ++ caps = as := by (simp (maxDischargeDepth := 8) only [go_sem, hNE, hA]; first | done | exact rfl)) (hn : as.mapM (norm false (restr [] Hr) 8) = some as' := by (simp (maxDischargeDepth := 8) only [go_sem, hNE, hA]; first | done | exact rfl)) (hp : PPure P f as' r := by (first | apply hP.1 | apply hP.2.1 | apply hP.2.2.1 | apply hP.2.2.2.1 | apply hP.2.2.2.2.1 | apply hP.2.2.2.2.2.1 | apply hP.2.2.2.2.2.2.1 | apply hP.2.2.2.2.2.2.2.1 | apply hP.2.2.2.2.2.2.2.2.1 | apply hP.2.2.2.2.2.2.2.2.2.1 | apply hP.2.2.2.2.2.2.2.2.2.2.1 | apply hP.2.2.2.2.2.2.2.2.2.2.2.1)) :
    TopsDm P zb ops (⟨dst, .call ⟨.value g, args, ts⟩, ty, pos, af, none⟩ :: rest) (false :: fl) Hr (St.mk E H) K := me_callS hg ha hn hp h
theorem be_gval {op : Op} {j : Nat} {want : Bool} {d : Tmp} {b : Bool} {v : PV} (h : TopsDm P zb ops rest fl Hr (St.mk (updO E dst (if b = want then v else .tup [])) H) K) (hd : (ops[j]?).bind (·.dst) = some d := by exact rfl) (hb : E d = .bool b := by (simp (maxDischargeDepth := 8) only [go_sem, hNE, hA]; first | done | exact rfl)) (he : isEff op = false := by exact rfl) (hc : ∀ g args ts, op ≠ .call ⟨.value g, args, ts⟩ := by (intro _ _ _ h; cases h)) (hv : b = want → opVal P (St.mk E Hr) op = some v := by (intro hG; simp (maxDischargeDepth := 8) only [go_sem, hNE, hA, hG]; first | done | exact rfl)) :
    TopsDm P zb ops (⟨dst, op, ty, pos, af, some (j, want)⟩ :: rest) (false :: fl) Hr (St.mk E H) K := me_gval b v hd hb he hc hv h
theorem be_gno {op : Op} {j : Nat} {want b : Bool} {d : Tmp} (h : TopsDm P zb ops rest fl Hr (St.mk (updO E dst (.tup [])) H) K) (hd : (ops[j]?).bind (·.dst) = some d := by exact rfl) (hb : E d = .bool b := by (simp (maxDischargeDepth := 8) only [go_sem, hNE, hA]; first | done | exact rfl)) (hne : (b == want) = false := by exact rfl) :
    TopsDm P zb ops (⟨dst, op, ty, pos, af, some (j, want)⟩ :: rest) (false :: fl) Hr (St.mk E H) K := me_gno hd hb hne h
theorem be_gno2 {rest : List Oper} {op : Op} {j : Nat} {want c w b : Bool} {d : Tmp} (h : TopsDm P zb ops rest fl Hr (St.mk (updO E dst (.tup [])) H) K) (hd : (ops[j]?).bind (·.dst) = some d := by exact rfl) (hb : E d = if c = w then .bool b else .tup [] := by (simp (maxDischargeDepth := 8) only [go_sem, hNE, hA]; first | done | exact rfl)) (hne : (b == want) = false := by exact rfl) :
    TopsDm P zb ops (⟨dst, op, ty, pos, af, some (j, want)⟩ :: rest) (false :: fl) Hr (St.mk E H) K := me_gno2 hd hb hne h
theorem be_gskip {op : Op} {j : Nat} {want : Bool} {d : Tmp} (h : TopsDm P zb ops rest fl Hr (St.mk (updO E dst (.tup [])) H) K) (hd : (ops[j]?).bind (·.dst) = some d := by exact rfl) (hb : E d = .tup [] := by (simp (maxDischargeDepth := 8) only [go_sem, hNE, hA]; first | done | exact rfl)) :
    TopsDm P zb ops (⟨dst, op, ty, pos, af, some (j, want)⟩ :: rest) (false :: fl) Hr (St.mk E H) K := me_gskip hd hb h
theorem be_gval2 {op : Op} {j : Nat} {want : Bool} {d : Tmp} {c w b : Bool} {v : PV} (h : TopsDm P zb ops rest fl Hr (St.mk (updO E dst (if c = w then (if b = want then v else .tup []) else .tup [])) H) K) (hd : (ops[j]?).bind (·.dst) = some d := by exact rfl) (hb : E d = if c = w then .bool b else .tup [] := by (simp (maxDischargeDepth := 8) only [go_sem, hNE, hA]; first | done | exact rfl)) (he : isEff op = false := by exact rfl) (hc : ∀ g args ts, op ≠ .call ⟨.value g, args, ts⟩ := by (intro _ _ _ h; cases h)) (hv : c = w → b = want → opVal P (St.mk E Hr) op = some v := by (intro hG hG2; simp (maxDischargeDepth := 8) only [go_sem, hNE, hA, hG, hG2]; first | done | exact rfl)) :
    TopsDm P zb ops (⟨dst, op, ty, pos, af, some (j, want)⟩ :: rest) (false :: fl) Hr (St.mk E H) K := me_gval2 hd hb he hc hv h
theorem be_alloc {t : TypeId} {z : PV} {n : Nat} (h : ∀ l, H l = none → (∀ l', (H l').isSome = true → (l' = l) = False ∧ (l = l') = False) → TopsDm P zb ops rest fl Hr (St.mk (updO E dst (.ref l n 0 0)) (upd H l (some (.row true n [z])))) K) (hz : tzero P t = some z := by (simp (maxDischargeDepth := 8) only [go_sem, hNE, hA]; first | done | exact rfl)) (hd : z.isDef = true := by exact rfl) (hn : z.cells.length = n := by exact rfl) :
    TopsDm P zb ops (⟨dst, .alloc t, ty, pos, af, none⟩ :: rest) (false :: fl) Hr (St.mk E H) K := me_alloc hz hd hn h
theorem be_store {t : TypeId} {a x : Operand} {l : Lab} {sz i off : Nat} {xs xs' : List PV} {e v : PV} (h : TopsDm P false ops rest fl (upd H l (some (.row true sz xs'))) (St.mk (updO E dst (.tup [])) (upd H l (some (.row true sz xs')))) K) (ha : evo (St.mk E H) a = .ref l sz i off := by (simp (maxDischargeDepth := 8) only [go_sem, hNE, hA]; first | done | exact rfl)) (hr : ownRow H l sz = some xs := by (simp (maxDischargeDepth := 8) only [go_sem, hNE, hA]; first | done | exact rfl)) (hi : xs[i]? = some e := by (simp (maxDischargeDepth := 8) only [go_sem, hNE, hA]; first | done | exact rfl)) (hx : evo (St.mk E H) x = v := by (simp (maxDischargeDepth := 8) only [go_sem, hNE, hA]; first | done | exact rfl)) (hd : (v.isDef && v.cells.all PV.isCell && v.cells.length == P.cellsOf t && P.cellsOf t != 0 && decide (off + P.cellsOf t ≤ sz) && (e.isAgg || !v.isAgg)) = true := by (simp (maxDischargeDepth := 8) only [go_sem, hNE, hA]; first | done | exact rfl)) (hs : xs.set i (setC e off v) = xs' := by (simp (maxDischargeDepth := 8) only [go_sem, hNE, hA]; first | done | exact rfl)) :
    TopsDm P false ops (⟨dst, .store t a x, ty, pos, af, none⟩ :: rest) (true :: fl) Hr (St.mk E H) K := me_store ha hr hi hx hd hs h
theorem a_cond {c : Operand} {x y : Code} {Q : X → St → Prop} {b : Bool} (h1 : b = true → T P x s Q) (h2 : b = false → T P y s Q) (hb : evo s c = .bool b := by (simp (maxDischargeDepth := 8) only [go_sem, hNE, hA]; first | done | exact rfl)) : T P (.cond c x y) s Q := t_cond b hb h1 h2
end
end Go.Proofs.Ythdgdngdfijfhaa
namespace Go.Proofs.Ythdgdngdfijfhaa
open Go.RowKit
set_option linter.unusedVariables false
structure Om (p : Prop) : Prop where
  h : p
theorem ifp {α : Type} {c : Prop} [Decidable c] (h : Om c) (a b : α) : (if c then a else b) = a := if_pos h.h
theorem ifn {α : Type} {c : Prop} [Decidable c] (h : Om (¬ c)) (a b : α) : (if c then a else b) = b := if_neg h.h
theorem ifpO {c : Prop} [Decidable c] (h : Om c) (a b : Option PV) : (if c then a else b) = a := if_pos h.h
theorem ifnO {c : Prop} [Decidable c] (h : Om (¬ c)) (a b : Option PV) : (if c then a else b) = b := if_neg h.h
theorem ifpI {c : Prop} [Decidable c] (h : Om c) (a b : Int) : (if c then a else b) = a := if_pos h.h
theorem ifnI {c : Prop} [Decidable c] (h : Om (¬ c)) (a b : Int) : (if c then a else b) = b := if_neg h.h
theorem ifpV {c : Prop} [Decidable c] (h : Om c) (a b : PV) : (if c then a else b) = a := if_pos h.h
theorem ifnV {c : Prop} [Decidable c] (h : Om (¬ c)) (a b : PV) : (if c then a else b) = b := if_neg h.h
theorem get_in {α : Type} (l : List α) (i : Nat) (h : Om (i < l.length)) : l[i]? = some (l[i]'h.h) := List.getElem?_eq_getElem h.h
theorem wrapO {n : Int} (h : Om (-9223372036854775808 ≤ n ∧ n ≤ 9223372036854775807)) : IntKind.i64.wrap n = n := wrap64_of h.h.1 h.h.2
theorem dpt {p : Prop} [Decidable p] (h : Om p) : decide p = true := decide_eq_true h.h
theorem dpf {p : Prop} [Decidable p] (h : Om (¬ p)) : decide p = false := decide_eq_false h.h
theorem nd1 {p : Prop} [Decidable p] (h : Om True) : (!decide p) = decide (¬ p) := decide_not.symm
theorem nd2 {p q : Prop} [Decidable p] [Decidable q] (h : Om True) : (decide p && decide q) = decide (p ∧ q) := (Bool.decide_and p q).symm
theorem nd3 {p q : Prop} [Decidable p] [Decidable q] (h : Om True) : (decide p || decide q) = decide (p ∨ q) := (Bool.decide_or p q).symm
theorem nd4 (h : Om True) (a b : List UInt8) : (a == b) = decide (a = b) := by by_cases h : a = b <;> simp [h]
theorem nd5 {p : Prop} [Decidable p] (h : Om True) : (decide p = true) = p := propext decide_eq_true_iff
theorem nd6 {p : Prop} [Decidable p] (h : Om True) : (decide p = false) = ¬ p := propext decide_eq_false_iff_not
theorem castA (h : Om True) (a b : Nat) : (a : Int) + (b : Int) = ((a + b : Nat) : Int) := (Int.natCast_add a b).symm
theorem castB1 (h : Om True) (a : Nat) : (a : Int) + 1 = ((a + 1 : Nat) : Int) := rfl
theorem castB2 (h : Om True) (a : Nat) : (a : Int) + 2 = ((a + 2 : Nat) : Int) := rfl
theorem castB3 (h : Om True) (a : Nat) : (a : Int) + 3 = ((a + 3 : Nat) : Int) := rfl
theorem castB4 (h : Om True) (a : Nat) : (a : Int) + 4 = ((a + 4 : Nat) : Int) := rfl
theorem castB5 (h : Om True) (a : Nat) : (a : Int) + 5 = ((a + 5 : Nat) : Int) := rfl
theorem castB6 (h : Om True) (a : Nat) : (a : Int) + 6 = ((a + 6 : Nat) : Int) := rfl
theorem castB7 (h : Om True) (a : Nat) : (a : Int) + 7 = ((a + 7 : Nat) : Int) := rfl
theorem castB8 (h : Om True) (a : Nat) : (a : Int) + 8 = ((a + 8 : Nat) : Int) := rfl
theorem castB9 (h : Om True) (a : Nat) : (a : Int) + 9 = ((a + 9 : Nat) : Int) := rfl
theorem castB10 (h : Om True) (a : Nat) : (a : Int) + 10 = ((a + 10 : Nat) : Int) := rfl
theorem castB16 (h : Om True) (a : Nat) : (a : Int) + 16 = ((a + 16 : Nat) : Int) := rfl
theorem castB32 (h : Om True) (a : Nat) : (a : Int) + 32 = ((a + 32 : Nat) : Int) := rfl
theorem castB48 (h : Om True) (a : Nat) : (a : Int) + 48 = ((a + 48 : Nat) : Int) := rfl
theorem castB64 (h : Om True) (a : Nat) : (a : Int) + 64 = ((a + 64 : Nat) : Int) := rfl
theorem castM (h : Om True) (a b : Nat) : (a : Int) * (b : Int) = ((a * b : Nat) : Int) := (Int.natCast_mul a b).symm
theorem pickP {c : Prop} [Decidable c] (h : Om True) (x y : Bool) : (if c then PV.bool x else PV.bool y) = PV.bool (if c then x else y) := by split <;> rfl
theorem itb1 {c : Prop} [Decidable c] (h : Om True) (x : Bool) : (if c then x else false) = decide (c ∧ x = true) := by by_cases h : c <;> simp [h]
theorem itb2 {c : Prop} [Decidable c] (h : Om True) (x : Bool) : (if c then true else x) = decide (c ∨ x = true) := by by_cases h : c <;> simp [h]
theorem itb3 {c : Prop} [Decidable c] (h : Om True) (x : Bool) : (if c then false else x) = decide (¬ c ∧ x = true) := by by_cases h : c <;> simp [h]
theorem itb4 {c : Prop} [Decidable c] (h : Om True) (x : Bool) : (if c then x else true) = decide (¬ c ∨ x = true) := by by_cases h : c <;> simp [h]
theorem nd7 (h : Om True) (x : Bool) : ((!x) = true) = (x = false) := by cases x <;> simp
theorem nd8 (h : Om True) (x : Bool) : ((!x) = false) = (x = true) := by cases x <;> simp
theorem get_D {α : Type} [Inhabited α] (l : List α) (i : Nat) (h : Om (i < l.length)) : l[i]? = some (l.getD i default) := by rw [List.getElem?_eq_getElem h.h, List.getD_eq_getElem?_getD, List.getElem?_eq_getElem h.h]; rfl
theorem itb5 {c : Prop} [Decidable c] (h : Om True) : (if c then true else false) = decide c := by by_cases h : c <;> simp [h]
theorem itb6 {c : Prop} [Decidable c] (h : Om True) : (if c then false else true) = decide (¬ c) := by by_cases h : c <;> simp [h]
theorem int_congr {k : IntKind} {a b : Int} (h : a = b) : PV.int k a = .int k b := by rw [h]
theorem evo_tmp (E : Nat → PV) (H : Hp) (t : Nat) : evo ⟨E, H⟩ (.tmp t) = E t := rfl
theorem evo_const (E : Nat → PV) (H : Hp) (v : Value) : evo ⟨E, H⟩ (.const v) = ofValue v := rfl
theorem evo_func (E : Nat → PV) (H : Hp) (f : Nat) : evo ⟨E, H⟩ (.func f) = .fn f [] := rfl
theorem mapevo_arr (E : Nat → PV) (H : Hp) (l : List Operand) : List.map (evo ⟨E, H⟩) l.toArray.toList = List.map (evo ⟨E, H⟩) l := by rw [List.toList_toArray]
theorem mapevo_cons (E : Nat → PV) (H : Hp) (x : Operand) (l : List Operand) : List.map (evo ⟨E, H⟩) (x :: l) = evo ⟨E, H⟩ x :: List.map (evo ⟨E, H⟩) l := rfl
theorem mapevo_nil (E : Nat → PV) (H : Hp) : List.map (evo ⟨E, H⟩) [] = [] := rfl
theorem toNat_subN (a b : Nat) : ((a : Int) - (b : Int)).toNat = a - b := by omega
theorem toNat_add (a b : Nat) : ((a : Int) + (b : Int)).toNat = a + b := by omega
theorem toNat_add1 (a : Nat) : ((a : Int) + 1).toNat = a + 1 := by omega
theorem gt_call {P : Program} {ops rest K dst ty pos af s} {g : Operand} {args : Array Operand} {ts : Array TypeId} (h : Tops P ops (⟨dst, .call ⟨.value g, args, ts⟩, ty, pos, af, none⟩ :: rest) s K) : Tops P ops (⟨dst, .call ⟨.value g, args, ts⟩, ty, pos, af, none⟩ :: rest) s K := h
theorem gd_call {P : Program} {zb ops rest K dst ty pos af s fl Hr} {g : Operand} {args : Array Operand} {ts : Array TypeId} (h : TopsDm P zb ops (⟨dst, .call ⟨.value g, args, ts⟩, ty, pos, af, none⟩ :: rest) fl Hr s K) : TopsDm P zb ops (⟨dst, .call ⟨.value g, args, ts⟩, ty, pos, af, none⟩ :: rest) fl Hr s K := h
theorem gt_alloc {P : Program} {ops rest K dst ty pos af s} {t : TypeId} (h : Tops P ops (⟨dst, .alloc t, ty, pos, af, none⟩ :: rest) s K) : Tops P ops (⟨dst, .alloc t, ty, pos, af, none⟩ :: rest) s K := h
theorem gd_alloc {P : Program} {zb ops rest K dst ty pos af s fl Hr} {t : TypeId} (h : TopsDm P zb ops (⟨dst, .alloc t, ty, pos, af, none⟩ :: rest) fl Hr s K) : TopsDm P zb ops (⟨dst, .alloc t, ty, pos, af, none⟩ :: rest) fl Hr s K := h
theorem gt_box {P : Program} {ops rest K dst ty pos af s} {t : TypeId} {x : Operand} (h : Tops P ops (⟨dst, .box t x, ty, pos, af, none⟩ :: rest) s K) : Tops P ops (⟨dst, .box t x, ty, pos, af, none⟩ :: rest) s K := h
theorem gt_store {P : Program} {ops rest K dst ty pos af s} {t : TypeId} {a x : Operand} (h : Tops P ops (⟨dst, .store t a x, ty, pos, af, none⟩ :: rest) s K) : Tops P ops (⟨dst, .store t a x, ty, pos, af, none⟩ :: rest) s K := h
theorem gd_store {P : Program} {zb ops rest K dst ty pos af s fl Hr} {t : TypeId} {a x : Operand} (h : TopsDm P zb ops (⟨dst, .store t a x, ty, pos, af, none⟩ :: rest) fl Hr s K) : TopsDm P zb ops (⟨dst, .store t a x, ty, pos, af, none⟩ :: rest) fl Hr s K := h
theorem gt_conv {P : Program} {ops rest K dst ty pos af s} {a b : TypeId} {x : Operand} (h : Tops P ops (⟨dst, .convert a b x, ty, pos, af, none⟩ :: rest) s K) : Tops P ops (⟨dst, .convert a b x, ty, pos, af, none⟩ :: rest) s K := h
theorem gt_any {P : Program} {ops rest K dst ty pos af s} {op : Op} (h : Tops P ops (⟨dst, op, ty, pos, af, none⟩ :: rest) s K) : Tops P ops (⟨dst, op, ty, pos, af, none⟩ :: rest) s K := h
theorem gd_any {P : Program} {zb ops rest K dst ty pos af s fl Hr} {op : Op} (h : TopsDm P zb ops (⟨dst, op, ty, pos, af, none⟩ :: rest) fl Hr s K) : TopsDm P zb ops (⟨dst, op, ty, pos, af, none⟩ :: rest) fl Hr s K := h
theorem gt_gcall {P : Program} {ops rest K dst ty pos af s q} {g : Operand} {args : Array Operand} {ts : Array TypeId} (h : Tops P ops (⟨dst, .call ⟨.value g, args, ts⟩, ty, pos, af, some q⟩ :: rest) s K) : Tops P ops (⟨dst, .call ⟨.value g, args, ts⟩, ty, pos, af, some q⟩ :: rest) s K := h
theorem gd_gcall {P : Program} {zb ops rest K dst ty pos af s fl Hr q} {g : Operand} {args : Array Operand} {ts : Array TypeId} (h : TopsDm P zb ops (⟨dst, .call ⟨.value g, args, ts⟩, ty, pos, af, some q⟩ :: rest) fl Hr s K) : TopsDm P zb ops (⟨dst, .call ⟨.value g, args, ts⟩, ty, pos, af, some q⟩ :: rest) fl Hr s K := h
theorem gt_g {P : Program} {ops rest K dst ty pos af s q} {op : Op} (h : Tops P ops (⟨dst, op, ty, pos, af, some q⟩ :: rest) s K) : Tops P ops (⟨dst, op, ty, pos, af, some q⟩ :: rest) s K := h
theorem gd_g {P : Program} {zb ops rest K dst ty pos af s fl Hr q} {op : Op} (h : TopsDm P zb ops (⟨dst, op, ty, pos, af, some q⟩ :: rest) fl Hr s K) : TopsDm P zb ops (⟨dst, op, ty, pos, af, some q⟩ :: rest) fl Hr s K := h
theorem gt_drw {P : Program} {id : Nat} {l s Q} (h : T P (.region id l true) s Q) : T P (.region id l true) s Q := h
theorem gt_cond {P : Program} {c x y s Q} (h : T P (.cond c x y) s Q) : T P (.cond c x y) s Q := h
theorem dropO {α : Type} (l : List α) (n : Nat) (h : Om (l.length ≤ n)) : l.drop n = [] := List.drop_of_length_le h.h
theorem takeO {α : Type} (l : List α) (n : Nat) (h : Om (l.length ≤ n)) : l.take n = l := List.take_of_length_le h.h
theorem CallsG.keep {P : Program} {f : FuncId} {as : List PV} {H : Hp} (H1 : Hp) {K1 K : PV → Hp → Prop} (h : CallsG P f as H1 K1) (hsub : ∀ l c, H1 l = some c → H l = some c)
    (hk : ∀ r H' H2, K1 r H' → (∀ l c, H' l = some c → H2 l = some c) → (∀ l sz xs, H l = some (.row true sz xs) → H1 l = none → H2 l = some (.row true sz xs) ∧ H' l = none) → K r H2) : CallsG P f as H K :=
  CallsG.frame h hsub fun r H' hK h1 h2 => hk r H' _ hK (fun l c e => by simp [glue, e]) (fun l sz xs e e1 => ⟨by simp [glue, h1 l sz xs e e1, e1, e], h1 l sz xs e e1⟩)
theorem pendE {P : Program} {fn : Func} {E : Nat → PV} {H : Hp} {r r' v : PV} {rs : Array ResultVar} (hr : fn.results = rs) (hv : resVal P rs ⟨E, H⟩ = some v) (hn : norm false H 8 v = some r') (he : r' = r) : PureEnd P fn r .ret ⟨E, H⟩ := he ▸ pend hr hv hn
theorem pendNE {P : Program} {fn : Func} {E : Nat → PV} {H : Hp} {r r' v : PV} {rs : Array ResultVar} (hr : fn.results = rs) (hv : resVal P rs ⟨E, H⟩ = some v) (hn : norm false H 8 v = some r') (he : r' = r) : PureEnd P fn r .normal ⟨E, H⟩ := he ▸ pendN hr hv hn
theorem resVal0 (P : Program) (s : St) : resVal P #[] s = some (.tup []) := rfl
theorem resVal1 (P : Program) (s : St) (a : ResultVar) : resVal P #[a] s = resOne P s a := by
  simp only [resVal, List.mapM_cons, List.mapM_nil]; cases resOne P s a <;> rfl
theorem resVal2 (P : Program) (s : St) (a b : ResultVar) : resVal P #[a, b] s = (resOne P s a).bind fun x => (resOne P s b).map fun y => .tup [x, y] := by
  simp only [resVal, List.mapM_cons, List.mapM_nil]; cases resOne P s a <;> cases resOne P s b <;> rfl
theorem resVal3 (P : Program) (s : St) (a b c : ResultVar) : resVal P #[a, b, c] s = (resOne P s a).bind fun x => (resOne P s b).bind fun y => (resOne P s c).map fun z => .tup [x, y, z] := by
  simp only [resVal, List.mapM_cons, List.mapM_nil]; cases resOne P s a <;> cases resOne P s b <;> cases resOne P s c <;> rfl
theorem resVal4 (P : Program) (s : St) (a b c d : ResultVar) : resVal P #[a, b, c, d] s = (resOne P s a).bind fun x => (resOne P s b).bind fun y => (resOne P s c).bind fun z => (resOne P s d).map fun u => .tup [x, y, z, u] := by
  simp only [resVal, List.mapM_cons, List.mapM_nil]; cases resOne P s a <;> cases resOne P s b <;> cases resOne P s c <;> cases resOne P s d <;> rfl
theorem resOne_tmp (P : Program) (E : Nat → PV) (H : Hp) (t : Nat) : resOne P ⟨E, H⟩ (.tmp t) = some (E t) := rfl
theorem resOne_cell (P : Program) (E : Nat → PV) (H : Hp) (a t : Nat) : resOne P ⟨E, H⟩ (.cell a t) = match E a with
    | .ref l sz i off => (rowOf H l sz).bind fun xs => (xs[i]?).bind fun x => loadCs P t x.cells off
    | .cptr cs => loadCs P t cs 0
    | _ => none := rfl
attribute [go_sem ↓] resVal0 resVal1 resVal2 resVal3 resVal4 resOne_tmp resOne_cell norm8
attribute [go_sem] castA castM castB1 castB2 castB3 castB4 castB5 castB6 castB7 castB8 castB9 castB10 castB16 castB32 castB48 castB64
attribute [go_sem] pickP itb1 itb2 itb3 itb4 itb5 itb6 nd7 nd8
attribute [go_sem] toNat_subN Nat.sub_zero and_false false_and or_false false_or or_true true_or not_true_eq_false
attribute [go_sem] ifpO ifnO ifpI ifnI ifpV ifnV wrapO dpt dpf nd1 nd2 nd3 nd4 nd5 nd6 toNat_add toNat_add1
attribute [go_sem 100] get_in
attribute [go_sem ↓] reduceIte updO_some updO_none evo_tmp evo_const evo_func mapevo_arr mapevo_cons mapevo_nil H_mk env_mk opVal_move opVal_assign opVal_pick opVal_binOp opVal_unOp opVal_convert opVal_extract opVal_func opVal_bfunc opVal_load opVal_slice pvSlice_eq opVal_len opVal_index opVal_indexAddr opVal_buildSlice opVal_iface opVal_nilCheck opVal_max opVal_min opVal_field opVal_fieldAddr rowOf ownRow upd_apply hp_cons hp_nil boundOf convS_eq
theorem eq28 {α : Type} {a b : α} (h : a = b := by (simp (maxDischargeDepth := 8) (disch := first | (with_reducible apply Om.mk; first | (simp (maxDischargeDepth := 8) only [go_sem, hNE, hA]; done) | (clear hP hC hNE hA; first | omega | (simp only [List.length_append, List.length_take, List.length_drop, List.length_map, List.length_replicate]; omega))) | (simp (maxDischargeDepth := 8) only [go_sem, hNE, hA]; done) | fail) only [go_sem, hNE, hA]; first | done | exact rfl)) : a = b := h
theorem eq28g {α : Type} {a b : α} (h : a = b := by (first | (simp (maxDischargeDepth := 8) (disch := first | (with_reducible apply Om.mk; first | (simp (maxDischargeDepth := 8) only [go_sem, hNE, hA]; done) | (clear hP hC hNE hA; first | omega | (simp only [List.length_append, List.length_take, List.length_drop, List.length_map, List.length_replicate]; omega))) | (simp (maxDischargeDepth := 8) only [go_sem, hNE, hA]; done) | fail) only [go_sem, hNE, hA, hG]; first | done | exact rfl) | (simp (maxDischargeDepth := 8) (disch := first | (with_reducible apply Om.mk; first | (simp (maxDischargeDepth := 8) only [go_sem, hNE, hA]; done) | (clear hP hC hNE hA; first | omega | (simp only [List.length_append, List.length_take, List.length_drop, List.length_map, List.length_replicate]; omega))) | (simp (maxDischargeDepth := 8) only [go_sem, hNE, hA]; done) | fail) only [get_D, go_sem, hNE, hA, hG]; first | done | exact rfl))) : a = b := h
theorem eq28h {α : Type} {a b : α} (h : a = b := by (first | (simp (maxDischargeDepth := 8) (disch := first | (with_reducible apply Om.mk; first | (simp (maxDischargeDepth := 8) only [go_sem, hNE, hA]; done) | (clear hP hC hNE hA; first | omega | (simp only [List.length_append, List.length_take, List.length_drop, List.length_map, List.length_replicate]; omega))) | (simp (maxDischargeDepth := 8) only [go_sem, hNE, hA]; done) | fail) only [go_sem, hNE, hA, hG, hG2]; first | done | exact rfl) | (simp (maxDischargeDepth := 8) (disch := first | (with_reducible apply Om.mk; first | (simp (maxDischargeDepth := 8) only [go_sem, hNE, hA]; done) | (clear hP hC hNE hA; first | omega | (simp only [List.length_append, List.length_take, List.length_drop, List.length_map, List.length_replicate]; omega))) | (simp (maxDischargeDepth := 8) only [go_sem, hNE, hA]; done) | fail) only [get_D, go_sem, hNE, hA, hG, hG2]; first | done | exact rfl))) : a = b := h
theorem cp28 {P : Program} {f : FuncId} {as : List PV} {r : PV} (h : PPure P f as r := by (first | (apply hP.1 <;> first | omega | assumption) | (apply hP.2.1 <;> first | omega | assumption) | (apply hP.2.2.1 <;> first | omega | assumption) | (apply hP.2.2.2.1 <;> first | omega | assumption) | (apply hP.2.2.2.2.1 <;> first | omega | assumption) | (apply hP.2.2.2.2.2.1 <;> first | omega | assumption) | (apply hP.2.2.2.2.2.2.1 <;> first | omega | assumption) | (apply hP.2.2.2.2.2.2.2.1 <;> first | omega | assumption) | (apply hP.2.2.2.2.2.2.2.2.1 <;> first | omega | assumption) | (apply hP.2.2.2.2.2.2.2.2.2.1 <;> first | omega | assumption) | (apply hP.2.2.2.2.2.2.2.2.2.2.1 <;> first | omega | assumption) | (apply hP.2.2.2.2.2.2.2.2.2.2.2.1 <;> first | omega | assumption) | (apply hP.2.2.2.2.2.2.2.2.2.2.2.2.1 <;> first | omega | assumption) | (apply hP.2.2.2.2.2.2.2.2.2.2.2.2.2.1 <;> first | omega | assumption) | (apply hP.2.2.2.2.2.2.2.2.2.2.2.2.2.2.1 <;> first | omega | assumption) | (apply hP.2.2.2.2.2.2.2.2.2.2.2.2.2.2.2.1 <;> first | omega | assumption))) : PPure P f as r := h
section
variable {zb : Bool} {P : Program} {E : Nat → PV} {H : Hp} {ops : Array Oper} {K : St → Prop} {dst : Option Tmp} {ty : TypeId} {pos : String} {af : Array Edge} {Hr : Hp} {fl : List Bool} {rest : List Oper} {s : St}
theorem ce_val {op : Op} {v : PV} (h : Tops P ops rest (St.mk (updO E dst v) H) K) (he : isEff op = false := by exact rfl) (hc : ∀ g args ts, op ≠ .call ⟨.value g, args, ts⟩ := by (intro _ _ _ h; cases h)) (hv : opVal P (St.mk E H) op = some v := by exact eq28) :
    Tops P ops (⟨dst, op, ty, pos, af, none⟩ :: rest) (St.mk E H) K := te_val v he hc hv h
theorem ce_callS {g : Operand} {args : Array Operand} {ts : Array TypeId} {f : Nat} {caps as as' : List PV} {r : PV} (h : Tops P ops rest (St.mk (updO E dst r) H) K) (hg : evo (St.mk E H) g = .fn f caps := by exact eq28) (ha : args.toList.map (evo (St.mk E H)) ++ caps = as := by exact eq28) (hn : as.mapM (norm false (restr [] H) 8) = some as' := by exact eq28) (hp : PPure P f as' r := by exact cp28) :
    Tops P ops (⟨dst, .call ⟨.value g, args, ts⟩, ty, pos, af, none⟩ :: rest) (St.mk E H) K := te_callS hg ha hn hp h
theorem ce_callO {g : Operand} {args : Array Operand} {ts : Array TypeId} {f : Nat} {caps as as' : List PV} {r : PV} (h : Tops P ops rest (St.mk (updO E dst r) H) K) (hg : evo (St.mk E H) g = .fn f caps := by exact eq28) (ha : args.toList.map (evo (St.mk E H)) ++ caps = as := by exact eq28) (hn : as.mapM (norm false H 8) = some as' := by exact eq28) (hp : PPure P f as' r := by exact cp28) (hs : scalarB r = true := by exact rfl) :
    Tops P ops (⟨dst, .call ⟨.value g, args, ts⟩, ty, pos, af, none⟩ :: rest) (St.mk E H) K := te_callO hg ha hn hp hs h
theorem ce_gval {op : Op} {j : Nat} {want : Bool} {d : Tmp} {b : Bool} {v : PV} (h : Tops P ops rest (St.mk (updO E dst (if b = want then v else .tup [])) H) K) (hd : (ops[j]?).bind (·.dst) = some d := by exact rfl) (hb : E d = .bool b := by exact eq28) (he : isEff op = false := by exact rfl) (hc : ∀ g args ts, op ≠ .call ⟨.value g, args, ts⟩ := by (intro _ _ _ h; cases h)) (hv : b = want → opVal P (St.mk E H) op = some v := by (intro hG; (try simp only [decide_eq_true_eq, decide_eq_false_iff_not, Decidable.not_not] at hG); exact eq28g)) :
    Tops P ops (⟨dst, op, ty, pos, af, some (j, want)⟩ :: rest) (St.mk E H) K := te_gval b v hd hb he hc hv h
theorem ce_gcallS {g : Operand} {args : Array Operand} {ts : Array TypeId} {j : Nat} {want : Bool} {d : Tmp} {b : Bool} {f : Nat} {caps as : List PV} {r : PV} (h : Tops P ops rest (St.mk (updO E dst (if b = want then r else .tup [])) H) K) (hd : (ops[j]?).bind (·.dst) = some d := by exact rfl) (hb : E d = .bool b := by exact eq28) (hg : evo (St.mk E H) g = .fn f caps := by exact eq28) (ha : b = want → args.toList.map (evo (St.mk E H)) ++ caps = as := by (intro hG; (try simp only [decide_eq_true_eq, decide_eq_false_iff_not, Decidable.not_not] at hG); exact eq28g)) (hc : as.all (closedB false) = true := by exact eq28) (hp : b = want → PPure P f as r := by (intro hG; exact cp28)) :
    Tops P ops (⟨dst, .call ⟨.value g, args, ts⟩, ty, pos, af, some (j, want)⟩ :: rest) (St.mk E H) K := te_gcallS hd hb hg ha hc hp h
theorem ce_gcallO {g : Operand} {args : Array Operand} {ts : Array TypeId} {j : Nat} {want : Bool} {d : Tmp} {b : Bool} {f : Nat} {caps as as' : List PV} {r : PV} (h : Tops P ops rest (St.mk (updO E dst (if b = want then r else .tup [])) H) K) (hd : (ops[j]?).bind (·.dst) = some d := by exact rfl) (hb : E d = .bool b := by exact eq28) (hg : evo (St.mk E H) g = .fn f caps := by exact eq28) (ha : b = want → args.toList.map (evo (St.mk E H)) ++ caps = as := by (intro hG; (try simp only [decide_eq_true_eq, decide_eq_false_iff_not, Decidable.not_not] at hG); exact eq28g)) (hn : b = want → as.mapM (norm false H 8) = some as' := by (intro hG; (try simp only [decide_eq_true_eq, decide_eq_false_iff_not, Decidable.not_not] at hG); exact eq28g)) (hp : b = want → PPure P f as' r := by (intro hG; exact cp28)) (hs : scalarB r = true := by exact rfl) :
    Tops P ops (⟨dst, .call ⟨.value g, args, ts⟩, ty, pos, af, some (j, want)⟩ :: rest) (St.mk E H) K := te_gcallO hd hb hg ha hn hp hs h
theorem ce_gno {op : Op} {j : Nat} {want b : Bool} {d : Tmp} (h : Tops P ops rest (St.mk (updO E dst (.tup [])) H) K) (hd : (ops[j]?).bind (·.dst) = some d := by exact rfl) (hb : E d = .bool b := by exact eq28) (hne : (b == want) = false := by exact rfl) :
    Tops P ops (⟨dst, op, ty, pos, af, some (j, want)⟩ :: rest) (St.mk E H) K := te_gno hd hb hne h
theorem ce_gno2 {rest : List Oper} {op : Op} {j : Nat} {want c w b : Bool} {d : Tmp} (h : Tops P ops rest (St.mk (updO E dst (.tup [])) H) K) (hd : (ops[j]?).bind (·.dst) = some d := by exact rfl) (hb : E d = if c = w then .bool b else .tup [] := by (simp (maxDischargeDepth := 8) only [go_sem, hNE, hA]; first | done | exact rfl)) (hne : (b == want) = false := by exact rfl) :
    Tops P ops (⟨dst, op, ty, pos, af, some (j, want)⟩ :: rest) (St.mk E H) K := te_gno2 hd hb hne h
theorem ce_gskip {op : Op} {j : Nat} {want : Bool} {d : Tmp} (h : Tops P ops rest (St.mk (updO E dst (.tup [])) H) K) (hd : (ops[j]?).bind (·.dst) = some d := by exact rfl) (hb : E d = .tup [] := by exact eq28) :
    Tops P ops (⟨dst, op, ty, pos, af, some (j, want)⟩ :: rest) (St.mk E H) K := te_gskip hd hb h
theorem ce_gval2 {op : Op} {j : Nat} {want : Bool} {d : Tmp} {c w b : Bool} {v : PV} (h : Tops P ops rest (St.mk (updO E dst (if c = w then (if b = want then v else .tup []) else .tup [])) H) K) (hd : (ops[j]?).bind (·.dst) = some d := by exact rfl) (hb : E d = if c = w then .bool b else .tup [] := by (simp (maxDischargeDepth := 8) only [go_sem, hNE, hA]; first | done | exact rfl)) (he : isEff op = false := by exact rfl) (hc : ∀ g args ts, op ≠ .call ⟨.value g, args, ts⟩ := by (intro _ _ _ h; cases h)) (hv : c = w → b = want → opVal P (St.mk E H) op = some v := by (intro hG hG2; (try simp only [decide_eq_true_eq, decide_eq_false_iff_not, Decidable.not_not] at hG hG2); exact eq28h)) :
    Tops P ops (⟨dst, op, ty, pos, af, some (j, want)⟩ :: rest) (St.mk E H) K := te_gval2 hd hb he hc hv h
theorem ce_box {t : TypeId} {x : Operand} {v : PV} {cs : List PV} (h : Tops P ops rest (St.mk (updO E dst (.cptr cs)) H) K) (hx : evo (St.mk E H) x = v := by exact eq28) (hd : v.isDef = true := by exact rfl) (hv : v.cells = cs := by exact eq28) :
    Tops P ops (⟨dst, .box t x, ty, pos, af, none⟩ :: rest) (St.mk E H) K := te_box hx hd hv h
theorem ce_boxL {t : TypeId} {x : Operand} {v : PV} {n : Nat} (h : ∀ l, H l = none → (∀ l', (H l').isSome = true → (l' = l) = False ∧ (l = l') = False) → Tops P ops rest (St.mk (updO E dst (.ref l n 0 0)) (upd H l (some (.row true n [v])))) K) (hx : evo (St.mk E H) x = v := by exact eq28) (hd : v.isDef = true := by exact rfl) (hn : v.cells.length = n := by exact eq28) :
    Tops P ops (⟨dst, .box t x, ty, pos, af, none⟩ :: rest) (St.mk E H) K := te_boxL hx hd hn h
theorem ce_alloc {t : TypeId} {z : PV} {n : Nat} (h : ∀ l, H l = none → (∀ l', (H l').isSome = true → (l' = l) = False ∧ (l = l') = False) → Tops P ops rest (St.mk (updO E dst (.ref l n 0 0)) (upd H l (some (.row true n [z])))) K) (hz : tzero P t = some z := by exact eq28) (hd : z.isDef = true := by exact rfl) (hn : z.cells.length = n := by exact eq28) :
    Tops P ops (⟨dst, .alloc t, ty, pos, af, none⟩ :: rest) (St.mk E H) K := te_alloc hz hd hn h
theorem ce_store {t : TypeId} {a x : Operand} {l : Lab} {sz i off : Nat} {xs xs' : List PV} {e v : PV} (h : Tops P ops rest (St.mk (updO E dst (.tup [])) (upd H l (some (.row true sz xs')))) K) (ha : evo (St.mk E H) a = .ref l sz i off := by exact eq28) (hr : ownRow H l sz = some xs := by exact eq28) (hi : xs[i]? = some e := by exact eq28) (hx : evo (St.mk E H) x = v := by exact eq28) (hd : (v.isDef && v.cells.all PV.isCell && v.cells.length == P.cellsOf t && P.cellsOf t != 0 && decide (off + P.cellsOf t ≤ sz) && (e.isAgg || !v.isAgg)) = true := by exact eq28) (hs : xs.set i (setC e off v) = xs' := by exact eq28) :
    Tops P ops (⟨dst, .store t a x, ty, pos, af, none⟩ :: rest) (St.mk E H) K := te_store ha hr hi hx hd hs h
theorem ce_conv {a b : TypeId} {x : Operand} {v : PV} (h : Tops P ops rest (St.mk (updO E dst v) H) K) (hv : convS P (St.mk E H) (.convert a b x) = some v := by exact eq28) :
    Tops P ops (⟨dst, .convert a b x, ty, pos, af, none⟩ :: rest) (St.mk E H) K := te_conv v hv h
theorem de_val {op : Op} {v : PV} (h : TopsDm P zb ops rest fl Hr (St.mk (updO E dst v) H) K) (he : isEff op = false := by exact rfl) (hc : ∀ g args ts, op ≠ .call ⟨.value g, args, ts⟩ := by (intro _ _ _ h; cases h)) (hv : opVal P (St.mk E Hr) op = some v := by exact eq28) :
    TopsDm P zb ops (⟨dst, op, ty, pos, af, none⟩ :: rest) (false :: fl) Hr (St.mk E H) K := me_val v he hc hv h
theorem de_callS {g : Operand} {args : Array Operand} {ts : Array TypeId} {f : Nat} {caps as as' : List PV} {r : PV} (h : TopsDm P zb ops rest fl Hr (St.mk (updO E dst r) H) K) (hg : evo (St.mk E H) g = .fn f caps := by exact eq28) (ha : args.toList.map (evo (St.mk E H)) ++ caps = as := by exact eq28) (hn : as.mapM (norm false (restr [] Hr) 8) = some as' := by exact eq28) (hp : PPure P f as' r := by exact cp28) :
    TopsDm P zb ops (⟨dst, .call ⟨.value g, args, ts⟩, ty, pos, af, none⟩ :: rest) (false :: fl) Hr (St.mk E H) K := me_callS hg ha hn hp h
theorem de_callO {g : Operand} {args : Array Operand} {ts : Array TypeId} {f : Nat} {caps as as' : List PV} {r : PV} (h : TopsDm P zb ops rest fl Hr (St.mk (updO E dst r) H) K) (hg : evo (St.mk E H) g = .fn f caps := by exact eq28) (ha : args.toList.map (evo (St.mk E H)) ++ caps = as := by exact eq28) (hn : as.mapM (norm false Hr 8) = some as' := by exact eq28) (hp : PPure P f as' r := by exact cp28) (hs : scalarB r = true := by exact rfl) :
    TopsDm P zb ops (⟨dst, .call ⟨.value g, args, ts⟩, ty, pos, af, none⟩ :: rest) (false :: fl) Hr (St.mk E H) K := me_callO hg ha hn hp hs h
theorem de_gval {op : Op} {j : Nat} {want : Bool} {d : Tmp} {b : Bool} {v : PV} (h : TopsDm P zb ops rest fl Hr (St.mk (updO E dst (if b = want then v else .tup [])) H) K) (hd : (ops[j]?).bind (·.dst) = some d := by exact rfl) (hb : E d = .bool b := by exact eq28) (he : isEff op = false := by exact rfl) (hc : ∀ g args ts, op ≠ .call ⟨.value g, args, ts⟩ := by (intro _ _ _ h; cases h)) (hv : b = want → opVal P (St.mk E Hr) op = some v := by (intro hG; (try simp only [decide_eq_true_eq, decide_eq_false_iff_not, Decidable.not_not] at hG); exact eq28g)) :
    TopsDm P zb ops (⟨dst, op, ty, pos, af, some (j, want)⟩ :: rest) (false :: fl) Hr (St.mk E H) K := me_gval b v hd hb he hc hv h
theorem de_gcallS {g : Operand} {args : Array Operand} {ts : Array TypeId} {j : Nat} {want : Bool} {d : Tmp} {b : Bool} {f : Nat} {caps as : List PV} {r : PV} (h : TopsDm P zb ops rest fl Hr (St.mk (updO E dst (if b = want then r else .tup [])) H) K) (hd : (ops[j]?).bind (·.dst) = some d := by exact rfl) (hb : E d = .bool b := by exact eq28) (hg : evo (St.mk E H) g = .fn f caps := by exact eq28) (ha : b = want → args.toList.map (evo (St.mk E H)) ++ caps = as := by (intro hG; (try simp only [decide_eq_true_eq, decide_eq_false_iff_not, Decidable.not_not] at hG); exact eq28g)) (hc : as.all (closedB false) = true := by exact eq28) (hp : b = want → PPure P f as r := by (intro hG; exact cp28)) :
    TopsDm P zb ops (⟨dst, .call ⟨.value g, args, ts⟩, ty, pos, af, some (j, want)⟩ :: rest) (false :: fl) Hr (St.mk E H) K := me_gcallS hd hb hg ha hc hp h
theorem de_gno {op : Op} {j : Nat} {want b : Bool} {d : Tmp} (h : TopsDm P zb ops rest fl Hr (St.mk (updO E dst (.tup [])) H) K) (hd : (ops[j]?).bind (·.dst) = some d := by exact rfl) (hb : E d = .bool b := by exact eq28) (hne : (b == want) = false := by exact rfl) :
    TopsDm P zb ops (⟨dst, op, ty, pos, af, some (j, want)⟩ :: rest) (false :: fl) Hr (St.mk E H) K := me_gno hd hb hne h
theorem de_gno2 {rest : List Oper} {op : Op} {j : Nat} {want c w b : Bool} {d : Tmp} (h : TopsDm P zb ops rest fl Hr (St.mk (updO E dst (.tup [])) H) K) (hd : (ops[j]?).bind (·.dst) = some d := by exact rfl) (hb : E d = if c = w then .bool b else .tup [] := by (simp (maxDischargeDepth := 8) only [go_sem, hNE, hA]; first | done | exact rfl)) (hne : (b == want) = false := by exact rfl) :
    TopsDm P zb ops (⟨dst, op, ty, pos, af, some (j, want)⟩ :: rest) (false :: fl) Hr (St.mk E H) K := me_gno2 hd hb hne h
theorem de_gskip {op : Op} {j : Nat} {want : Bool} {d : Tmp} (h : TopsDm P zb ops rest fl Hr (St.mk (updO E dst (.tup [])) H) K) (hd : (ops[j]?).bind (·.dst) = some d := by exact rfl) (hb : E d = .tup [] := by exact eq28) :
    TopsDm P zb ops (⟨dst, op, ty, pos, af, some (j, want)⟩ :: rest) (false :: fl) Hr (St.mk E H) K := me_gskip hd hb h
theorem de_gval2 {op : Op} {j : Nat} {want : Bool} {d : Tmp} {c w b : Bool} {v : PV} (h : TopsDm P zb ops rest fl Hr (St.mk (updO E dst (if c = w then (if b = want then v else .tup []) else .tup [])) H) K) (hd : (ops[j]?).bind (·.dst) = some d := by exact rfl) (hb : E d = if c = w then .bool b else .tup [] := by (simp (maxDischargeDepth := 8) only [go_sem, hNE, hA]; first | done | exact rfl)) (he : isEff op = false := by exact rfl) (hc : ∀ g args ts, op ≠ .call ⟨.value g, args, ts⟩ := by (intro _ _ _ h; cases h)) (hv : c = w → b = want → opVal P (St.mk E Hr) op = some v := by (intro hG hG2; (try simp only [decide_eq_true_eq, decide_eq_false_iff_not, Decidable.not_not] at hG hG2); exact eq28h)) :
    TopsDm P zb ops (⟨dst, op, ty, pos, af, some (j, want)⟩ :: rest) (false :: fl) Hr (St.mk E H) K := me_gval2 hd hb he hc hv h
theorem de_alloc {t : TypeId} {z : PV} {n : Nat} (h : ∀ l, H l = none → (∀ l', (H l').isSome = true → (l' = l) = False ∧ (l = l') = False) → TopsDm P zb ops rest fl Hr (St.mk (updO E dst (.ref l n 0 0)) (upd H l (some (.row true n [z])))) K) (hz : tzero P t = some z := by exact eq28) (hd : z.isDef = true := by exact rfl) (hn : z.cells.length = n := by exact eq28) :
    TopsDm P zb ops (⟨dst, .alloc t, ty, pos, af, none⟩ :: rest) (false :: fl) Hr (St.mk E H) K := me_alloc hz hd hn h
theorem de_store {t : TypeId} {a x : Operand} {l : Lab} {sz i off : Nat} {xs xs' : List PV} {e v : PV} (h : TopsDm P false ops rest fl (upd H l (some (.row true sz xs'))) (St.mk (updO E dst (.tup [])) (upd H l (some (.row true sz xs')))) K) (ha : evo (St.mk E H) a = .ref l sz i off := by exact eq28) (hr : ownRow H l sz = some xs := by exact eq28) (hi : xs[i]? = some e := by exact eq28) (hx : evo (St.mk E H) x = v := by exact eq28) (hd : (v.isDef && v.cells.all PV.isCell && v.cells.length == P.cellsOf t && P.cellsOf t != 0 && decide (off + P.cellsOf t ≤ sz) && (e.isAgg || !v.isAgg)) = true := by exact eq28) (hs : xs.set i (setC e off v) = xs' := by exact eq28) :
    TopsDm P false ops (⟨dst, .store t a x, ty, pos, af, none⟩ :: rest) (true :: fl) Hr (St.mk E H) K := me_store ha hr hi hx hd hs h
theorem ce_gcall2 {g : Operand} {args : Array Operand} {ts : Array TypeId} {j : Nat} {want : Bool} {d : Tmp} {c w b : Bool} {f : Nat} {caps as : List PV} {r : PV} (h : Tops P ops rest (St.mk (updO E dst (if c = w then (if b = want then r else .tup []) else .tup [])) H) K) (hd : (ops[j]?).bind (·.dst) = some d := by exact rfl) (hb : E d = if c = w then .bool b else .tup [] := by (simp (maxDischargeDepth := 8) only [go_sem, hNE, hA]; first | done | exact rfl)) (hg : evo (St.mk E H) g = .fn f caps := by exact eq28) (ha : c = w → b = want → args.toList.map (evo (St.mk E H)) ++ caps = as := by (intro hG hG2; (try simp only [decide_eq_true_eq, decide_eq_false_iff_not, Decidable.not_not] at hG hG2); exact eq28h)) (hc : as.all (closedB false) = true := by exact eq28) (hp : c = w → b = want → PPure P f as r := by (intro hG hG2; exact cp28)) :
    Tops P ops (⟨dst, .call ⟨.value g, args, ts⟩, ty, pos, af, some (j, want)⟩ :: rest) (St.mk E H) K := te_gcall2 hd hb hg ha hc hp h
theorem de_gcall2 {g : Operand} {args : Array Operand} {ts : Array TypeId} {j : Nat} {want : Bool} {d : Tmp} {c w b : Bool} {f : Nat} {caps as : List PV} {r : PV} (h : TopsDm P zb ops rest fl Hr (St.mk (updO E dst (if c = w then (if b = want then r else .tup []) else .tup [])) H) K) (hd : (ops[j]?).bind (·.dst) = some d := by exact rfl) (hb : E d = if c = w then .bool b else .tup [] := by (simp (maxDischargeDepth := 8) only [go_sem, hNE, hA]; first | done | exact rfl)) (hg : evo (St.mk E H) g = .fn f caps := by exact eq28) (ha : c = w → b = want → args.toList.map (evo (St.mk E H)) ++ caps = as := by (intro hG hG2; (try simp only [decide_eq_true_eq, decide_eq_false_iff_not, Decidable.not_not] at hG hG2); exact eq28h)) (hc : as.all (closedB false) = true := by exact eq28) (hp : c = w → b = want → PPure P f as r := by (intro hG hG2; exact cp28)) :
    TopsDm P zb ops (⟨dst, .call ⟨.value g, args, ts⟩, ty, pos, af, some (j, want)⟩ :: rest) (false :: fl) Hr (St.mk E H) K := me_gcall2 hd hb hg ha hc hp h
theorem de_gcallO {g : Operand} {args : Array Operand} {ts : Array TypeId} {j : Nat} {want : Bool} {d : Tmp} {b : Bool} {f : Nat} {caps as as' : List PV} {r : PV} (h : TopsDm P zb ops rest fl Hr (St.mk (updO E dst (if b = want then r else .tup [])) H) K) (hd : (ops[j]?).bind (·.dst) = some d := by exact rfl) (hb : E d = .bool b := by exact eq28) (hg : evo (St.mk E H) g = .fn f caps := by exact eq28) (ha : b = want → args.toList.map (evo (St.mk E H)) ++ caps = as := by (intro hG; (try simp only [decide_eq_true_eq, decide_eq_false_iff_not, Decidable.not_not] at hG); exact eq28g)) (hn : b = want → as.mapM (norm false Hr 8) = some as' := by (intro hG; (try simp only [decide_eq_true_eq, decide_eq_false_iff_not, Decidable.not_not] at hG); exact eq28g)) (hp : b = want → PPure P f as' r := by (intro hG; exact cp28)) (hs : scalarB r = true := by exact rfl) :
    TopsDm P zb ops (⟨dst, .call ⟨.value g, args, ts⟩, ty, pos, af, some (j, want)⟩ :: rest) (false :: fl) Hr (St.mk E H) K := me_gcallO hd hb hg ha hn hp hs h
theorem de_storeZ {t : TypeId} {a x : Operand} {l : Lab} {sz i off : Nat} {xs xs' : List PV} {e v : PV} (h : TopsDm P true ops rest fl Hr (St.mk (updO E dst (.tup [])) (upd H l (some (.row true sz xs')))) K) (ha : evo (St.mk E H) a = .ref l sz i off := by exact eq28) (hq : Hr l = none := by exact eq28) (hsub : ∀ l c, Hr l = some c → H l = some c := by (first | exact rm_sub _ _ | (intro _ _ e; cases e; done) | (repeat (first | exact rm_sub _ _ | refine upd_sub ?_ (by (simp (maxDischargeDepth := 8) (disch := first | (with_reducible apply Om.mk; first | (simp (maxDischargeDepth := 8) only [go_sem, hNE, hA]; done) | (clear hP hC hNE hA; first | omega | (simp only [List.length_append, List.length_take, List.length_drop, List.length_map, List.length_replicate]; omega))) | (simp (maxDischargeDepth := 8) only [go_sem, hNE, hA]; done) | fail) only [go_sem, hNE, hA])))))) (hr : ownRow H l sz = some xs := by exact eq28) (hi : xs[i]? = some e := by exact eq28) (hx : evo (St.mk E H) x = v := by exact eq28) (hd : (v.isDef && v.cells.all PV.isCell && v.cells.length == P.cellsOf t && P.cellsOf t != 0 && decide (off + P.cellsOf t ≤ sz) && (e.isAgg || !v.isAgg)) = true := by exact eq28) (hs : xs.set i (setC e off v) = xs' := by exact eq28) :
    TopsDm P true ops (⟨dst, .store t a x, ty, pos, af, none⟩ :: rest) (true :: fl) Hr (St.mk E H) K := me_storeZ ha hq hsub hr hi hx hd hs h
theorem ce_drwA {id : Nat} {l : List Oper} {Q : X → St → Prop} {fl : List Bool} (h : TopsDm P false l.toArray l fl H ⟨E, H⟩ (Q .normal)) (hfl : effFlA l = fl := by (simp only [effFlA, List.map_cons, List.map_nil]; exact rfl)) (hok : drawOK false l.toArray fl = true := by decide +kernel) : T P (.region id l.toArray true) ⟨E, H⟩ Q := te_drwA hfl hok h
theorem ce_drwE {id : Nat} {l : List Oper} {Q : X → St → Prop} {fl : List Bool} (h : TopsDm P false l.toArray l fl H ⟨E, H⟩ (Q .normal)) (hfl : effFl l = fl := by (simp only [effFl, List.map_cons, List.map_nil]; exact rfl)) (hok : drawOK false l.toArray fl = true := by decide +kernel) : T P (.region id l.toArray true) ⟨E, H⟩ Q := te_drwE hfl hok h
theorem ce_drwK {id : Nat} {l : List Oper} {Q : X → St → Prop} {fl : List Bool} {L : List Lab} (h : TopsDm P true l.toArray l fl (rm L H) ⟨E, H⟩ (Q .normal)) (hfl : effFl l = fl := by (simp only [effFl, List.map_cons, List.map_nil]; exact rfl)) (hok : drawOK true l.toArray fl = true := by decide +kernel) (hL : stLabs l ⟨E, H⟩ = L := by exact eq28) : T P (.region id l.toArray true) ⟨E, H⟩ Q := te_drwK hfl hok hL h
theorem ce_drwZ {id : Nat} {l : List Oper} {Q : X → St → Prop} {fl : List Bool} (h : TopsDm P true l.toArray l fl (fun _ => none) ⟨E, H⟩ (Q .normal)) (hfl : effFl l = fl := by (simp only [effFl, List.map_cons, List.map_nil]; exact rfl)) (hok : drawOK true l.toArray fl = true := by decide +kernel) : T P (.region id l.toArray true) ⟨E, H⟩ Q := te_drwZ hfl hok h
theorem c_cond {c : Operand} {x y : Code} {Q : X → St → Prop} {b : Prop} [Decidable b] (h1 : b → T P x s Q) (h2 : ¬ b → T P y s Q) (hb : evo s c = .bool (decide b) := by exact eq28) : T P (.cond c x y) s Q := t_cond (decide b) hb (fun h => h1 (of_decide_eq_true h)) (fun h => h2 (of_decide_eq_false h))
theorem c_condB {c : Operand} {x y : Code} {Q : X → St → Prop} {b : Bool} (h1 : b = true → T P x s Q) (h2 : b = false → T P y s Q) (hb : evo s c = .bool b := by exact eq28) : T P (.cond c x y) s Q := t_cond b hb h1 h2
theorem fin_eq {α : Type} {a b : α} (h : a = b := by (clear hNE hP; first | exact rfl | (simp (maxDischargeDepth := 8) (disch := first | (with_reducible apply Om.mk; first | (simp (maxDischargeDepth := 8) only [go_sem, hA]; done) | (clear hC hA; first | omega | (simp only [List.length_append, List.length_take, List.length_drop, List.length_map, List.length_replicate]; omega))) | (simp (maxDischargeDepth := 8) only [go_sem, hA]; done) | fail) only [hC, hA, ifp, ifn, dropO, takeO, ite_self, Option.getD_some, Option.getD_none, go_sem]; first | done | exact rfl | (simp only [PV.tup.injEq, PV.agg.injEq, List.cons.injEq, PV.int.injEq, PV.str.injEq, PV.bool.injEq, PV.list.injEq, true_and, and_true]; first | omega | ((repeat' apply And.intro) <;> first | rfl | omega | (congr 1 <;> first | rfl | omega | (congr 1 <;> first | rfl | omega | (congr 1 <;> first | rfl | omega | (congr 1 <;> first | rfl | omega)))))) | (congr 1; simp only [List.length_append, List.length_map, List.length_take, List.length_drop, List.length_cons, List.length_nil]; omega)))) : a = b := h
theorem cpendE {fn : Func} {r r' v : PV} {rs : Array ResultVar} (hr : fn.results = rs) (he : r' = r) (hv : resVal P rs ⟨E, H⟩ = some v := by (simp (maxDischargeDepth := 8) only [go_sem, hNE, hA]; first | done | exact rfl)) (hn : norm false H 8 v = some r' := by (simp (maxDischargeDepth := 8) only [go_sem, hNE, hA]; first | done | exact rfl)) : PureEnd P fn r .ret ⟨E, H⟩ := pendE hr hv hn he
theorem cpendNE {fn : Func} {r r' v : PV} {rs : Array ResultVar} (hr : fn.results = rs) (he : r' = r) (hv : resVal P rs ⟨E, H⟩ = some v := by (simp (maxDischargeDepth := 8) only [go_sem, hNE, hA]; first | done | exact rfl)) (hn : norm false H 8 v = some r' := by (simp (maxDischargeDepth := 8) only [go_sem, hNE, hA]; first | done | exact rfl)) : PureEnd P fn r .normal ⟨E, H⟩ := pendNE hr hv hn he
theorem lv_eq {α : Type} {a b : α} (h : a = b := by (first | (simp (maxDischargeDepth := 8) only [go_sem, hNE, hA, List.length_append, List.length_cons, List.length_nil, Nat.zero_add]; first | done | rfl | exact int_congr (by omega) | (congr 1; omega)) | exact int_congr (by omega) | (congr 1; omega))) : a = b := h
theorem rowA {N : Nat} {l : Lab} {c : Chunk} (h : RowOK N H l c := by (first | (apply rowok_eq; simp (maxDischargeDepth := 8) only [go_sem, hNE, hA, List.length_append, List.length_cons, List.length_nil, Nat.zero_add]; first | done | rfl) | (apply rowok_wv; (focus (simp (maxDischargeDepth := 8) only [go_sem, hNE, hA, List.length_append, List.length_cons, List.length_nil, Nat.zero_add]; rfl)); (try (simp (maxDischargeDepth := 8) only [go_sem, hNE, hA, List.length_append, List.length_cons, List.length_nil, Nat.zero_add])); (repeat' first | exact WvL.refl _ | exact WvL.nil | exact Wv.refl _ | exact Wv.nil _ _ _ _ rfl | refine WvL.cons ?_ ?_ | refine Wv.aggL ?_); first | done | fail))) : RowOK N H l c := h
end
end Go.Proofs.Ythdgdngdfijfhaa
namespace Go.Proofs.Ythdgdngdfijfhaa
open Go.ChangeShapes Go.WideShapes Go.ChangeAt Go.RowKit Go.Deep
set_option linter.unusedVariables false
set_option linter.unusedSimpArgs false
inductive PT where
  | bool
  | int (k : IntKind)
  | str
  | list (row : Bool) (e : PT)
  | unit
  | seq (a b : PT)
def PT.width : PT → Nat
  | .bool | .int _ | .str | .list _ _ => 1
  | .unit => 0
  | .seq a b => a.width + b.width
def TV : PT → List PV → Prop
  | .bool, l => ∃ b, l = [.bool b]
  | .int k, l => ∃ n, l = [.int k n] ∧ (Lit.int k n).wf = true
  | .str, l => ∃ s : List UInt8, l = [.str s] ∧ s.length ≤ maxLen
  | .list r e, l => ∃ xs : List PV, l = [.list .any xs] ∧ xs.length ≤ maxLen ∧ ∀ x ∈ xs, TV e x.cells ∧ (r = true → ∃ c, x = .agg c) ∧ (r = false → x.cells = [x])
  | .unit, l => l = []
  | .seq a b, l => ∃ p q, l = p ++ q ∧ TV a p ∧ TV b q
theorem TV.width : ∀ (T : PT) (l : List PV), TV T l → l.length = T.width
  | .bool, l, h => by obtain ⟨b, rfl⟩ := h; rfl
  | .int k, l, h => by obtain ⟨b, rfl, _⟩ := h; rfl
  | .str, l, h => by obtain ⟨b, rfl, _⟩ := h; rfl
  | .list r e, l, h => by obtain ⟨b, rfl, _⟩ := h; rfl
  | .unit, l, h => by have : l = [] := h; rw [this]; rfl
  | .seq a b, l, h => by
    obtain ⟨p, q, rfl, h1, h2⟩ := h
    rw [List.length_append, TV.width a p h1, TV.width b q h2]; rfl
def isSt : Option TypeDesc → Bool
  | some (.struct _) => true
  | _ => false
def okFs (F : TypeId → PT → Bool) (P : Program) : List Field → Nat → PT → Bool
  | [], _, .unit => true
  | f :: fs, off, .seq a b => f.offset == off && F f.type a && P.cellsOf f.type == a.width && okFs F P fs (off + a.width) b
  | _, _, _ => false
def okT (P : Program) : Nat → TypeId → PT → Bool
  | 0, _, _ => false
  | n + 1, t, T => match P.underlying t, T with
    | some .bool, .bool => true
    | some (.int k), .int k' => k == k'
    | some .string, .str => true
    | some (.slice e), .list r T' => okT P n e T' && P.cellsOf e == T'.width && P.cellsOf e != 0 && r == isSt (P.underlying e)
    | some (.struct fs), T => P.cellsOf t == T.width && okFs (okT P n) P fs.toList 0 T
    | _, _ => false
def CRel (w : World) (cs : List Value) (qs : List PV) : Prop := cs.length = qs.length ∧ ∀ (i : Nat) v q, cs[i]? = some v → qs[i]? = some q → VR w (fun _ => False) v q
theorem CRel.one {w : World} {v : Value} {q : PV} (h : VR w (fun _ => False) v q) : CRel w [v] [q] := ⟨rfl, fun i v' q' h1 h2 => by
  cases i with
  | zero => simp at h1 h2; subst h1; subst h2; exact h
  | succ i => simp at h1⟩
theorem CRel.app {w : World} {a b : List Value} {p q : List PV} (h1 : CRel w a p) (h2 : CRel w b q) : CRel w (a ++ b) (p ++ q) := ⟨by rw [List.length_append, List.length_append, h1.1, h2.1], fun i v x hv hx => by
  rcases Nat.lt_or_ge i a.length with hl | hl
  · rw [List.getElem?_append_left hl] at hv
    rw [List.getElem?_append_left (by rw [← h1.1]; exact hl)] at hx
    exact h1.2 i v x hv hx
  · rw [List.getElem?_append_right hl] at hv
    rw [List.getElem?_append_right (by rw [← h1.1]; exact hl), ← h1.1] at hx
    exact h2.2 _ v x hv hx⟩
section
variable {H : Type} {enc : TypeId × Value → H} {P : Program} {w : World} {base : Nat} {sp : Nat → Bool} {held : Bool}
def mkE (r : Bool) (q : List PV) : PV := if r = true then .agg q else q.headD .undef
theorem open_pv : ∀ (n : Nat) (t : TypeId) (T : PT) (fuel : Nat) (cs : List Value) (x : DataW H × List MemPlace), okT P n t T = true → DataW.trod enc P w base sp held fuel t cs = some x →
    ∃ qs, TV T qs ∧ CRel w cs qs := by
  intro n
  induction n with
  | zero => intro t T fuel cs x hok; cases hok
  | succ n ih =>
    intro t T fuel cs x hok h
    unfold okT at hok
    split at hok
    · rename_i hu
      obtain ⟨b, rfl, _⟩ := DataW.trod_bool hu h
      exact ⟨[.bool b], ⟨b, rfl⟩, .one (.bool b)⟩
    · rename_i k k' hu
      simp only [beq_iff_eq] at hok
      subst hok
      obtain ⟨m, rfl, _, hw⟩ := DataW.trod_int hu h
      exact ⟨[.int k m], ⟨m, rfl, hw⟩, .one (.int k m)⟩
    · rename_i hu
      obtain ⟨s, rfl, _, hs⟩ := DataW.trod_string hu h
      refine ⟨[.str s.data.toList], ⟨s.data.toList, rfl, by simpa using hs⟩, .one ?_⟩
      have := VR.str (w := w) (O := fun _ => False) s.data.toList
      simpa using this
    · rename_i e r T' hu
      simp only [Bool.and_eq_true, beq_iff_eq, bne_iff_ne] at hok
      obtain ⟨⟨⟨hT, hw⟩, hw0⟩, hr⟩ := hok
      rcases open_slice hu h with ⟨rfl, _⟩ | ⟨a, len, cap, m, k, D, Pl, rfl, _, hlc, hcm, hm, _, hel⟩
      · exact ⟨[.list .any []], ⟨[], rfl, by simp, fun x hx => by cases hx⟩, .one (.list .any [] none 0 0 [] (Nat.le_refl _) (fun h => by cases h) ⟨nofun, nofun, fun _ => rfl⟩ rfl (fun x h => by cases h) (fun h => absurd rfl h) (fun i v p h => by simp at h))⟩
      · have hlm : len ≤ m := by rw [hm]; split <;> omega
        have hall : ∀ i : Nat, ∃ (C : List Value) (Q : List PV), i < len → (w.cells? base (a.add (i * P.cellsOf e)) (P.cellsOf e) = some C ∧ TV T' Q ∧ CRel w C Q) := by
          intro i
          by_cases hi : i < len
          · obtain ⟨C, hC, ht⟩ := hel i (by omega)
            obtain ⟨Q, hQ, hCQ⟩ := ih e T' k C _ hT ht
            exact ⟨C, Q, fun _ => ⟨hC, hQ, hCQ⟩⟩
          · exact ⟨[], [], fun h => absurd h hi⟩
        obtain ⟨C, hC⟩ := Classical.axiomOfChoice hall
        obtain ⟨Q, hQ⟩ := Classical.axiomOfChoice hC
        generalize hsz : P.cellsOf e = sz at *
        have hQl : ∀ i, i < len → (Q i).length = sz := fun i hi => by rw [TV.width T' _ (hQ i hi).2.1, hw]
        have hCl : ∀ i, i < len → (C i).length = sz := fun i hi => by rw [(hQ i hi).2.2.1, hQl i hi]
        -- a list with one cell is no struct
        have hrow : r = true ∨ (r = false ∧ ∀ i, i < len → ∃ q, Q i = [q] ∧ q.cells = [q]) := by
          cases r with
          | true => exact .inl rfl
          | false =>
            refine .inr ⟨rfl, fun i hi => ?_⟩
            have hTV := (hQ i hi).2.1
            cases n with
            | zero => cases hT
            | succ n =>
              unfold okT at hT
              split at hT
              · obtain ⟨b, e⟩ := hTV; exact ⟨_, e, rfl⟩
              · obtain ⟨b, e, _⟩ := hTV; exact ⟨_, e, rfl⟩
              · obtain ⟨b, e, _⟩ := hTV; exact ⟨_, e, rfl⟩
              · obtain ⟨b, e, _⟩ := hTV; exact ⟨_, e, rfl⟩
              · rename_i fs hus
                rw [hus] at hr; cases hr
              · cases hT
        have hcell : ∀ i, i < len → (mkE r (Q i)).cells = Q i := by
          intro i hi
          rcases hrow with h | ⟨h, hq⟩
          · unfold mkE; rw [if_pos h]; rfl
          · obtain ⟨q, e1, e2⟩ := hq i hi
            unfold mkE; rw [if_neg (by rw [h]; decide), e1]; exact e2
        have hxs : ∀ i, i < len → ((List.range len).map fun i => mkE r (Q i))[i]? = some (mkE r (Q i)) := fun i hi => by
          rw [List.getElem?_map, List.getElem?_range hi]; rfl
        have hmemx : ∀ x ∈ (List.range len).map (fun i => mkE r (Q i)), ∃ i, i < len ∧ x = mkE r (Q i) := by
          intro x hx
          obtain ⟨i, hi, rfl⟩ := List.mem_map.1 hx
          exact ⟨i, by simpa using hi, rfl⟩
        have hszx : ∀ x ∈ (List.range len).map (fun i => mkE r (Q i)), x.cells.length = sz := by
          intro x hx
          obtain ⟨i, hi, rfl⟩ := hmemx x hx
          rw [hcell i hi, hQl i hi]
        refine ⟨[.list .any ((List.range len).map fun i => mkE r (Q i))], ⟨_, rfl, by simp; omega, fun x hx => ?_⟩, .one ?_⟩
        · obtain ⟨i, hi, rfl⟩ := hmemx x hx
          refine ⟨by rw [hcell i hi]; exact (hQ i hi).2.1, fun hr => ⟨Q i, by unfold mkE; rw [if_pos hr]⟩, fun hr => ?_⟩
          rcases hrow with h | ⟨h, hq⟩
          · rw [h] at hr; cases hr
          · obtain ⟨q, e1, e2⟩ := hq i hi
            unfold mkE; rw [if_neg (by rw [h]; decide), e1]; exact e2
        · -- the cells in a row
          have hcl : ∀ i r', i < len → r' < sz → w.cell? ((a.add (i * sz)).add r') = (C i)[r']? := by
            intro i r' hi hr'
            have h1 := (hQ i hi).1
            unfold World.cells? at h1
            split at h1
            · have := mapM_some_get h1 r' r' (by rw [List.getElem?_range hr'])
              exact this
            · cases h1
          have hgetC : ∀ i r', i < len → r' < sz → ∃ v, (C i)[r']? = some v := fun i r' hi hr' => ⟨(C i)[r']'(by rw [hCl i hi]; exact hr'), List.getElem?_eq_getElem _⟩
          have hspot : 0 < len → a.spot = none ∧ a.block < w.heap.size := by
            intro hl
            obtain ⟨v, hv⟩ := hgetC 0 0 hl (by omega)
            have h0 := hcl 0 0 hl (by omega)
            rw [hv] at h0
            simp only [Nat.zero_mul, Addr.add, if_true] at h0
            unfold World.cell? at h0
            split at h0
            · rename_i c _ _ hb
              split at h0
              · cases h0
              · rename_i hs
                exact ⟨by cases hx : a.spot <;> simp_all, lt_of_block hb⟩
            · cases h0
          have hflat : (flat ((List.range len).map fun i => mkE r (Q i))).length = len * sz := by rw [flat_len hszx]; simp
          have := VR.list (w := w) (O := fun _ => False) .any ((List.range len).map fun i => mkE r (Q i)) (some a) cap sz ((List.range (len * sz)).map fun j => ((C (j / sz))[j % sz]?).getD undef)
            (by simp; exact hlc) (fun h => by cases h) ⟨nofun, nofun, nofun⟩ (by rw [hflat]; simp) hszx
            (fun hne => by
              have hl : 0 < len := by
                rcases Nat.eq_zero_or_pos len with h | h
                · subst h; exact absurd rfl hne
                · exact h
              obtain ⟨hs, hb⟩ := hspot hl
              refine ⟨a.block, a.off, by cases a; simp_all, hb, fun h => h, fun j v hv => ?_⟩
              have hj : j < len * sz := by
                have := (List.getElem?_eq_some_iff.1 hv).1
                simpa using this
              rw [List.getElem?_map, List.getElem?_range hj] at hv
              have h0 : 0 < sz := by omega
              have hi : j / sz < len := (Nat.div_lt_iff_lt_mul h0).2 hj
              have hr' : j % sz < sz := Nat.mod_lt _ h0
              obtain ⟨u, hu'⟩ := hgetC _ _ hi hr'
              simp only [Option.map_some, hu', Option.getD_some, Option.some.injEq] at hv
              subst hv
              have hc := hcl _ _ hi hr'
              rw [hu'] at hc
              rw [← hc]
              congr 1
              obtain ⟨ab, ao, as'⟩ := a
              simp only at hs
              subst hs
              rw [Addr.add_mid, Addr.add_mid, Nat.add_assoc, Nat.div_add_mod' j sz])
            (fun j v p hv hp => by
              obtain ⟨i, y, r', hy, hr', rfl, hpc⟩ := flat_split hszx hp
              have hi : i < len := by
                have := (List.getElem?_eq_some_iff.1 hy).1
                simpa using this
              rw [hxs i hi] at hy
              obtain rfl := Option.some.inj hy
              rw [hcell i hi] at hpc
              have h0 : 0 < sz := by omega
              have hj : i * sz + r' < len * sz := by
                have : (i + 1) * sz ≤ len * sz := Nat.mul_le_mul_right _ hi
                rw [Nat.succ_mul] at this; omega
              rw [List.getElem?_map, List.getElem?_range hj] at hv
              have e1 : (i * sz + r') / sz = i := by rw [Nat.add_comm, Nat.add_mul_div_right _ _ h0, Nat.div_eq_of_lt hr', Nat.zero_add]
              have e2 : (i * sz + r') % sz = r' := by rw [Nat.add_comm, Nat.add_mul_mod_self_right, Nat.mod_eq_of_lt hr']
              obtain ⟨u, hu'⟩ := hgetC i r' hi hr'
              simp only [Option.map_some, e1, e2, hu', Option.getD_some, Option.some.injEq] at hv
              subst hv
              exact (hQ i hi).2.2.2 r' u p hu' hpc)
          simpa using this
    · rename_i fs hu
      simp only [Bool.and_eq_true, beq_iff_eq] at hok
      obtain ⟨xs, n', _, _, hl, hlen, hf⟩ := DataW.trod_struct hu h
      have key : ∀ (l : List Field) (off : Nat) (T : PT) (k : Nat), okFs (okT P n) P l off T = true → (∀ (i : Nat) f, l[i]? = some f → fs.toList[k + i]? = some f) → off + T.width ≤ cs.length →
          ∃ qs, TV T qs ∧ CRel w ((cs.drop off).take T.width) qs := by
        intro l
        induction l with
        | nil =>
          intro off T k hk _ _
          cases T <;> first | (cases hk; done) | skip
          exact ⟨[], rfl, by simp [PT.width, CRel]⟩
        | cons f l ihl =>
          intro off T k hk hsub hle
          cases T <;> first | (cases hk; done) | skip
          rename_i A B
          simp only [okFs, Bool.and_eq_true, beq_iff_eq] at hk
          obtain ⟨⟨⟨ho, hA⟩, hwA⟩, hB⟩ := hk
          have hfk := hsub 0 f rfl
          have hx : ∃ y, DataW.trod enc P w base sp held n' f.type ((cs.drop f.offset).take (P.cellsOf f.type)) = some y := by
            have h1 := hf k f (by simpa using hfk)
            have hk' : k < xs.length := by
              rw [hlen]
              have := (List.getElem?_eq_some_iff.1 hfk).1
              simpa using this
            rw [h1]
            exact ⟨xs[k], List.getElem?_eq_getElem hk'⟩
          obtain ⟨y, hy⟩ := hx
          rw [ho, hwA] at hy
          obtain ⟨qa, hqa, hca⟩ := ih _ _ _ _ _ hA hy
          have hle' : off + (A.width + B.width) ≤ cs.length := hle
          obtain ⟨qb, hqb, hcb⟩ := ihl (off + A.width) B (k + 1) hB (fun i g hg => by
            have := hsub (i + 1) g (by simpa using hg)
            rw [show k + 1 + i = k + (i + 1) by omega]; exact this) (by omega)
          refine ⟨qa ++ qb, ⟨qa, qb, rfl, hqa, hqb⟩, ?_⟩
          have : (cs.drop off).take (PT.width (.seq A B)) = (cs.drop off).take A.width ++ (cs.drop (off + A.width)).take B.width := by
            show (cs.drop off).take (A.width + B.width) = _
            rw [List.take_add, List.drop_drop]
          rw [this]
          exact hca.app hcb
      obtain ⟨qs, h1, h2⟩ := key fs.toList 0 _ 0 hok.2 (fun i f hf => by simpa using hf) (by rw [hl, hok.1]; omega)
      refine ⟨qs, h1, ?_⟩
      rw [List.drop_zero, ← hok.1, ← hl, List.take_length] at h2
      exact h2
    · cases hok
end
end Go.Proofs.Ythdgdngdfijfhaa
namespace Go.Proofs.Ythdgdngdfijfhaa
open Go.ChangeShapes Go.WideShapes Go.ChangeAt Go.RowKit Go.Deep
set_option linter.unusedVariables false
set_option linter.unusedSimpArgs false
abbrev noO : Nat → Prop := fun _ => False
section
variable {H : Type} {enc : TypeId × Value → H} {P : Program} {w : World} {r : Reach} {b0 : Nat} {base : Nat} {sp : Nat → Bool} {held : Bool} {t : TypeId} {v : Value} {d : DataW H} {ps : List MemPlace}
theorem arg_slice {e : TypeId} {T : PT} (n : Nat) (hu : P.underlying t = some (.slice e)) (hok : okT P n t T = true) (hv : Value.okWide P w r b0 t v) (h : DataW.Trod enc P w base sp held t v d ps) :
    ∃ q, TV T [q] ∧ VR w noO v q := by
  obtain ⟨a, len, cap, rfl⟩ := okWide_slice hu hv
  obtain ⟨fuel, hf⟩ := h
  obtain ⟨qs, hT, hl, hc⟩ := open_pv n t T fuel _ _ hok hf
  have hl : 1 = qs.length := by simpa [Value.cells] using hl
  obtain ⟨q, rfl⟩ := List.length_eq_one_iff.1 hl.symm
  exact ⟨q, hT, hc 0 _ q (by simp [Value.cells]) rfl⟩
theorem arg_struct {fs : Array Field} {T : PT} (n : Nat) (hu : P.underlying t = some (.struct fs)) (hok : okT P n t T = true) (hv : Value.okWide P w r b0 t v) (h : DataW.Trod enc P w base sp held t v d ps) :
    ∃ qs, TV T qs ∧ VR w noO v (.agg qs) := by
  obtain ⟨cs, rfl, hs⟩ := okWide_struct hu hv
  obtain ⟨fuel, hf⟩ := h
  obtain ⟨qs, hT, hl, hc⟩ := open_pv n t T fuel _ _ hok hf
  have hl : cs.size = qs.length := by simpa [Value.cells] using hl
  exact ⟨qs, hT, .agg qs cs hl (fun i v p hv hp => hc i v p (by simpa [Value.cells] using hv) hp)⟩
end
theorem TV_list {α : Type} {e : PT} {en : α → PV} {r : Bool} (he : ∀ x : PV, TV e x.cells → (r = true → ∃ c, x = .agg c) → (r = false → x.cells = [x]) → ∃ a, x = en a) {l : List PV} (h : TV (.list r e) l) : ∃ xs : List α, l = [.list .any (xs.map en)] ∧ xs.length ≤ maxLen := by
  obtain ⟨ys, rfl, hn, hy⟩ := h
  have : ∃ xs : List α, ys = xs.map en := by
    clear hn
    induction ys with
    | nil => exact ⟨[], rfl⟩
    | cons y ys ih =>
      obtain ⟨xs, rfl⟩ := ih (fun x hx => hy x (List.mem_cons_of_mem _ hx))
      obtain ⟨h1, h2, h3⟩ := hy y List.mem_cons_self
      obtain ⟨a, rfl⟩ := he y h1 h2 h3
      exact ⟨a :: xs, rfl⟩
  obtain ⟨xs, rfl⟩ := this
  exact ⟨xs, rfl, by simpa using hn⟩
theorem TV_rows {α : Type} {e : PT} {en : α → PV} (he : ∀ c, TV e c → ∃ a, PV.agg c = en a) {l : List PV} (h : TV (.list true e) l) : ∃ xs : List α, l = [.list .any (xs.map en)] ∧ xs.length ≤ maxLen :=
  TV_list (fun x h1 h2 _ => by
    obtain ⟨c, rfl⟩ := h2 rfl
    exact he c h1) h
theorem VRs.nil {w : World} {O : Nat → Prop} : VRs w O #[] [] := ⟨rfl, fun i v p h => by simp at h⟩
theorem VRs.mk3 {w : World} {O : Nat → Prop} {v v' v'' : Value} {p p' p'' : PV} (h : VR w O v p) (h' : VR w O v' p') (h'' : VR w O v'' p'') : VRs w O #[v, v', v''] [p, p', p''] := ⟨rfl, fun i u q h1 h2 => by
  match i with
  | 0 => simp at h1 h2; subst h1; subst h2; exact h
  | 1 => simp at h1 h2; subst h1; subst h2; exact h'
  | 2 => simp at h1 h2; subst h1; subst h2; exact h''
  | i + 3 => simp at h1⟩
theorem PPure.law {P : Program} {f : FuncId} {vals : List PV} (h : PPure P f vals (.bool true)) {w : World} {vs : Array Value} (hv : VRs w noO vs vals) :
    Calls P f vs w fun e w' => e = .returned (.bool true) ∧ Below w.heap.size w w' :=
  (h.2 w noO vs (fun b hb => hb.elim) hv).mono fun e w' ⟨v, he, hb, hr⟩ => by
    have := hr.bool_inv
    subst this
    exact ⟨he, hb⟩
end Go.Proofs.Ythdgdngdfijfhaa
