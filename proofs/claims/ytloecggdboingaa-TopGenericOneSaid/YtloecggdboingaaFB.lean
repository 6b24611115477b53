/- Operations that make or write memory (3): append, copy; then all of them together. -/
import Derived.Test.YtloecggdboingaaFA
import Derived.LoopN
namespace Go.Proofs.Ytloecggdboingaa
open Go.RowKit
set_option linter.unusedVariables false
set_option linter.unusedSimpArgs false

section
variable {P : Program} {w : World} {X : Nat → Prop} {H : Hp}

theorem size_zeroCells (z : Array Value) (n : Nat) : (Builtin.zeroCells z n).size = n * z.size := by simp [Builtin.zeroCells]

theorem room_int {n bytes : Nat} (h : n * bytes ≤ roomB) (hb : 0 < bytes) : (n : Int) ≤ 9223372036854775807 := by
  unfold roomB at h
  have : n ≤ n * bytes := Nat.le_mul_of_pos_right _ hb
  omega

/-- A new row behind a draw. -/
theorem SR.grow {n : Nat} {w0 : World} {O0 : Nat → Prop} {s : St} {a : Act} (h : SR P n w0 O0 X s a w) {olds news : List Value} {po pn : List PV} {z : Array Value} {e : TypeId} {sz need cap : Nat}
    (hz : z.size = sz) (hol : olds.length = (flat po).length) (hnl : news.length = (flat pn).length)
    (ho : ∀ (i : Nat) v p, olds[i]? = some v → (flat po)[i]? = some p → VR w (both X s.H) v p) (hn : ∀ (i : Nat) v p, news[i]? = some v → (flat pn)[i]? = some p → VR w (both X s.H) v p)
    (hso : ∀ x ∈ po, x.cells.length = sz) (hsn : ∀ x ∈ pn, x.cells.length = sz) (hneed : need = po.length + pn.length) (hcap : need ≤ cap) :
    SR P n w0 O0 X { s with H := upd s.H (.real w.heap.size) (some (.row true sz (po ++ pn))) } a (w.drew.alloc (.cells ((olds ++ news).toArray ++ Builtin.zeroCells z (cap - need)) e)) ∧
    VR (w.drew.alloc (.cells ((olds ++ news).toArray ++ Builtin.zeroCells z (cap - need)) e)) (both X (upd s.H (.real w.heap.size) (some (.row true sz (po ++ pn)))))
      (.slice (some ⟨w.heap.size, 0, none⟩) need cap) (.arr (.real w.heap.size) sz 0 need) := by
  have hd : Fr w (fun _ => False) w.drew := Fr.drew w _
  have hk := h.keep hd
  have hall : ∀ x ∈ po ++ pn, x.cells.length = sz := fun x hx => (List.mem_append.1 hx).elim (hso x) (hsn x)
  have hfl := flat_len hall
  have hlo := flat_len hso
  have hln := flat_len hsn
  have hsize : ((olds ++ news).toArray ++ Builtin.zeroCells z (cap - need)).size = cap * sz := by
    rw [Array.size_append, size_zeroCells, hz, List.size_toArray, List.length_append, hol, hnl, hlo, hln, ← Nat.add_mul, ← hneed, ← Nat.add_mul]
    congr 1
    omega
  refine ⟨?_, ?_⟩
  · refine hk.alloc (w := w.drew) e hall (by rw [hsize, hfl, List.length_append, ← hneed]; exact Nat.mul_le_mul_right _ hcap) (fun i v p hv hp => ?_)
    have hi : i < (flat (po ++ pn)).length := (List.getElem?_eq_some_iff.1 hp).1
    rw [flat_append, List.length_append] at hi
    rw [Array.getElem?_append_left (by simp; omega), List.getElem?_toArray] at hv
    rw [flat_append] at hp
    rcases Nat.lt_or_ge i (flat po).length with h1 | h1
    · rw [List.getElem?_append_left h1] at hp
      rw [List.getElem?_append_left (by omega)] at hv
      exact (ho i v p hv hp).keep hd
    · rw [List.getElem?_append_right h1] at hp
      rw [List.getElem?_append_right (by omega), hol] at hv
      exact (hn _ v p hv hp).keep hd
  · have := VR.arr (w := w.drew.alloc (.cells ((olds ++ news).toArray ++ Builtin.zeroCells z (cap - need)) e)) (O := both X (upd s.H (.real w.heap.size) (some (.row true sz (po ++ pn))))) w.heap.size sz 0 need cap _ e (0, 0) hcap (heap_new w.drew _) (by rw [hsize, Nat.zero_add]; exact Nat.le_refl _)
    rwa [Nat.zero_mul] at this

theorem did_append {n : Nat} {w0 : World} {O0 : Nat → Prop} {s : St} {a : Act} {o : Oper} {K : PV → Hp → Prop} (h : SR P n w0 O0 X s a w) {args : Array Operand} {ts : Array TypeId}
    (ho : o.op = .call ⟨.builtin .append, args, ts⟩) {full : Bool} (hk : opEff P full s o.op K) : Did P n w0 O0 X s a w o K := by
  rw [ho] at hk
  obtain ⟨t0, t1, x, y, e, rfl, rfl, hu, hsrc, ys, hys, hcells, hzero, hsz0, hby0, hk⟩ := hk
  have vx := h.ev x
  have vy := h.ev y
  obtain ⟨z, hz, hzl⟩ := Option.map_eq_some_iff.1 hzero
  obtain ⟨ie, vz, hie, hiz, rfl, _⟩ := zero_of (w := w) hz
  have hzc := ofValue_cells w (both X s.H) vz
  have hsz : ie.size = P.cellsOf e := by simp [Program.cellsOf, hie]
  have hby : ie.bytes = P.bytesOf e := by simp [Program.bytesOf, hie]
  obtain ⟨news, hS, hnl, hnel, _⟩ := items_run hsrc h.heap vy hys hcells
  have hfy := flat_len (fun y hy => (hcells y hy).1)
  have hx0 : execOp a.eval o = (do pure (.value (← Builtin.append_ #[t0, t1] o.type #[a.eval x, a.eval y]))) := by
    unfold execOp
    rw [ho]
    simp only [resolve, pure_bind, invoke]
    rw [show (#[x, y] : Array Operand).map a.eval = #[a.eval x, a.eval y] from by simp]
    rfl
  have fin : ∀ v w', (Builtin.append_ #[t0, t1] o.type #[a.eval x, a.eval y]).run P w = .ok v w' → (execOp a.eval o).run P w = .ok (.value v) w' := by
    intro v w' hr
    rw [hx0]
    simp [hr]
  -- nothing is appended, and there is nothing to do
  have none_ : ∀ ad len cap, ys = [] → a.eval x = .slice ad len cap → len ≤ cap → (execOp a.eval o).run P w = .ok (.value (.slice ad len cap)) w := by
    intro ad len cap hy he hc
    subst hy
    obtain rfl : news = [] := List.eq_nil_of_length_eq_zero (by rw [hnl]; simp [flat])
    refine fin _ _ ?_
    rw [he]
    have hc2 := hS.cells
    rcases hS.kind with ⟨e', hk⟩ | hk <;> cases ad <;>
      simp [Builtin.append_, run_underlying hu, run_underlying hk, sizeOf, typeInfo, hie, hS.len, hc, hsz, hS.cells, storeCells, show (Builtin.firstCells (P.cellsOf e) 0 (a.eval y)).run P w = .ok #[] w from hc2]
  -- a new row
  have grow : ∀ (s' : St) (ad : Option Addr) (len cap : Nat) (olds : List Value) (po : List PV), SR P n w0 O0 X s' a w → (∀ b, own s'.H b → own s.H b) → a.eval x = .slice ad len cap → len = po.length → cap < len + ys.length →
      olds.length = (flat po).length → (∀ (i : Nat) v p, olds[i]? = some v → (flat po)[i]? = some p → VR w (both X s'.H) v p) → (∀ x ∈ po, x.cells.length = P.cellsOf e) →
      (Builtin.firstCells ie.size len (.slice ad len cap)).run P w.drew = .ok olds.toArray w.drew → (len + ys.length) * P.bytesOf e ≤ roomB →
      K (.arr (.real w.heap.size) (P.cellsOf e) 0 (len + ys.length)) (upd s'.H (.real w.heap.size) (some (.row true (P.cellsOf e) (po ++ ys)))) → s'.env = s.env → Did P n w0 O0 X s a w o K := by
    intro s' ad len cap olds po hs' hown he hlen hg hol hoel hpo hfc hroom hK henv
    have hfit := growslice_fits (old := cap) (bytes := ie.bytes) hg (by rw [hby]; exact hroom)
    have h63 := room_int hroom hby0
    have hrun := run_append_grow_src w t0 t1 o.type e ie vz hu hie hiz ad len cap olds hfc (a.eval y) ys.length news (by rw [hsz]; exact hS) hg h63 hfit
    rw [← he] at hrun
    obtain ⟨h1, h2⟩ := hs'.grow (e := e) (z := vz.cells) (sz := P.cellsOf e) (need := len + ys.length) (cap := grownCap w (len + ys.length) cap e) (by rw [hzc.1, hzl]) hol hnl hoel
      (fun i v p hv hp => (hnel i v p hv hp).less (fun b _ hb => hb.imp id (hown b))) hpo (fun y hy => (hcells y hy).1) (by rw [hlen]) (grownCap_ge _ _ _ _)
    refine ⟨_, _, _, _, .inl (fin _ _ hrun), hK, ?_, h2⟩
    have : ({ s with H := upd s'.H (.real w.heap.size) (some (.row true (P.cellsOf e) (po ++ ys))) } : St) = { s' with H := upd s'.H (.real w.heap.size) (some (.row true (P.cellsOf e) (po ++ ys))) } := by
      cases s; cases s'; simp_all
    rw [this]
    exact h1
  generalize hpx : evo s x = px at hk vx
  obtain ⟨ux, hux⟩ : ∃ u, a.eval x = u := ⟨_, rfl⟩
  rw [hux] at vx
  cases px <;> simp only at hk
  case list k xs =>
    obtain ⟨hne, hxs, hroom, hk⟩ := hk
    cases vx with
    | list _ _ ad cap sz cs g1 g2 g3 g4 g5 g6 g7 =>
      have hcap : cap = xs.length := by
        cases k
        · exact absurd rfl hne
        · exact g3 rfl
        · obtain ⟨_, h0⟩ := g2 rfl; omega
      subst hcap
      by_cases hy : ys = []
      · rw [if_pos hy] at hk
        exact ⟨_, w, _, _, .inl (none_ ad _ _ hy hux (Nat.le_refl _)), hk, h, .list k xs ad xs.length sz cs g1 g2 g3 g4 g5 g6 g7⟩
      · rw [if_neg hy] at hk
        have hpos : 0 < ys.length := List.length_pos_iff.2 hy
        have hol : cs.length = (flat xs).length := g4
        refine grow s ad xs.length xs.length cs xs h (fun _ h => h) hux rfl (by omega) hol g7 hxs ?_ hroom (hk _ (fresh_none h.heap)) rfl
        by_cases hx : xs = []
        · subst hx
          obtain rfl : cs = [] := List.eq_nil_of_length_eq_zero (by rw [hol]; simp [flat])
          exact (src_nil (P := P) (w := w.drew) (size := ie.size) (tx := t1) hsrc ad 0).cells
        · obtain ⟨b, o', rfl, hlt, hO, hr⟩ := g6 hx
          exact run_firstCells_some w.drew _ _ _ _ _ cs (by rw [hol, flat_len hxs, hsz]) (fun j v hv => by rw [Addr.add_mid]; simpa using hr j v hv)
  case arr l sz lo len =>
    obtain ⟨_, rfl, rfl, hroom, xs, hxs, hlen, hk⟩ := hk
    have hrow := ownRow_of hxs
    have hsub : SR P n w0 O0 X { s with H := upd s.H l none } a w := h.sub (fun l' c e => by
      simp only [upd_apply] at e
      split at e
      · cases e
      · exact e)
    have hown : ∀ b, own (upd s.H l none) b → own s.H b := by
      rintro b ⟨sz', ys', e⟩
      simp only [upd_apply] at e
      split at e
      · cases e
      · exact ⟨sz', ys', e⟩
    have hfresh : s.H (.real w.heap.size) = none := fresh_none h.heap
    obtain ⟨hxsz, hrest⟩ := h.heap _ _ _ _ hrow
    have newrow : ∀ (ad : Option Addr) (cap : Nat) (olds : List Value), a.eval x = .slice ad len cap → cap < len + ys.length → olds.length = (flat xs).length →
        (∀ (i : Nat) v p, olds[i]? = some v → (flat xs)[i]? = some p → VR w (both X s.H) v p) → (Builtin.firstCells ie.size len (.slice ad len cap)).run P w.drew = .ok olds.toArray w.drew → Did P n w0 O0 X s a w o K := by
      intro ad cap olds he hg hol hoel hfc
      refine grow { s with H := upd s.H l none } ad len cap olds xs hsub hown he hlen hg hol (fun i v p hv hp => (hoel i v p hv hp).less (fun b _ hb => hb.imp id (hown b))) hxsz hfc hroom ?_ rfl
      exact hk (.real w.heap.size) (.inr hfresh)
    have same : ys = [] → upd (upd s.H l none) l (some (.row true (P.cellsOf e) (xs ++ ys))) = s.H := by
      intro hy
      subst hy
      rw [upd_twice, List.append_nil]
      funext l'
      simp only [upd_apply]
      split
      · rename_i e; subst e; exact hrow.symm
      · rfl
    have idle : ys = [] → ∀ ad cap, a.eval x = .slice ad len cap → len ≤ cap → (∀ O, VR w O (.slice ad len cap) (.arr l (P.cellsOf e) 0 len)) → Did P n w0 O0 X s a w o K := by
      intro hy ad cap he hc hv
      have hk' := hk l (.inl rfl)
      rw [same hy] at hk'
      have hl0 : len + ys.length = len := by rw [hy]; rfl
      rw [hl0] at hk'
      exact ⟨_, w, _, _, .inl (none_ ad _ _ hy he hc), hk', h, hv _⟩
    cases vx with
    | arr0 _ _ _ ad =>
      obtain rfl : xs = [] := List.eq_nil_of_length_eq_zero hlen.symm
      by_cases hy : ys = []
      · exact idle hy ad 0 hux (Nat.le_refl _) (fun O => .arr0 _ _ _ _)
      · have hpos : 0 < ys.length := List.length_pos_iff.2 hy
        exact newrow ad 0 [] hux (by omega) (by simp [flat]) (fun i v p hv => by simp at hv) (src_nil (P := P) (w := w.drew) (size := ie.size) (tx := t1) hsrc ad 0).cells
    | arr b _ _ _ cap cs0 t' fr hcap hb0 hfit =>
      by_cases hy : ys = []
      · exact idle hy _ cap hux hcap (fun O => .arr b _ _ _ cap cs0 t' fr hcap hb0 hfit)
      · have hpos : 0 < ys.length := List.length_pos_iff.2 hy
        obtain ⟨hX, cs, ty, hb, hle, hel⟩ := hrest
        rw [hb] at hb0
        obtain ⟨rfl, rfl, rfl⟩ : cs = cs0 ∧ ty = t' ∧ (0, 0) = fr := by simpa using hb0
        have hxl := flat_len hxsz
        simp only [Nat.zero_mul, Nat.zero_add] at hux hfit
        by_cases hroom' : len + ys.length ≤ cap
        · -- in place
          have hbd : len * P.cellsOf e + news.length ≤ cs.size := by
            rw [hnl, hfy, ← Nat.add_mul]
            exact Nat.le_trans (Nat.mul_le_mul_right _ hroom') hfit
          have hst := run_storeCells_at (P := P) b (len * P.cellsOf e) ty news 0 cs w hb (by simpa using hbd) hS.one
          simp only [Nat.add_zero] at hst
          have hrun : (Builtin.append_ #[t0, t1] o.type #[a.eval x, a.eval y]).run P w = .ok (.slice (some ⟨b, 0, none⟩) (len + ys.length) cap) (w.setRow b (splice cs.toList (len * P.cellsOf e) news).toArray) := by
            rw [hux]
            rcases hS.kind with ⟨e', hk⟩ | hk <;>
              simp [Builtin.append_, run_underlying hu, run_underlying hk, sizeOf, typeInfo, hie, hS.len, hroom', hsz, hS.cells, Addr.add_mid, hst, splice]
          have hlen2 : (splice cs.toList (len * P.cellsOf e) news).toArray.size = cs.size := by
            rw [List.size_toArray, splice_len _ _ _ (by simpa using hbd), Array.length_toList]
          obtain ⟨hf, hb'⟩ := setRow_heap' hb hlen2
          have hall : ∀ v ∈ xs ++ ys, v.cells.length = P.cellsOf e := fun v hv => (List.mem_append.1 hv).elim (hxsz v) (fun hv => (hcells v hv).1)
          have hs := h.write hrow hf hb' hall ⟨by rw [flat_append, List.length_append, hxl, hlen2, ← hnl, ← hlen]; exact hbd, fun i v p hv hp => by
            rw [List.getElem?_toArray, splice_get _ _ _ (by simpa using hbd)] at hv
            rw [flat_append] at hp
            split at hv
            · rename_i hi
              rw [List.getElem?_append_right (by rw [hxl, ← hlen]; exact hi.1), hxl, ← hlen] at hp
              exact hnel _ _ _ hv hp
            · rename_i hi
              have hi2 : i < (flat xs).length := by
                have := (List.getElem?_eq_some_iff.1 hp).1
                rw [List.length_append, ← hnl, hxl, ← hlen] at this
                rw [hxl, ← hlen]
                omega
              rw [List.getElem?_append_left hi2] at hp
              exact hel _ _ _ (by rwa [Array.getElem?_toList] at hv) hp⟩
          have hk' := hk (.real b) (.inl rfl)
          rw [upd_twice] at hk'
          refine ⟨_, _, _, _, .inl (fin _ _ hrun), hk', hs, ?_⟩
          have := VR.arr (w := w.setRow b (splice cs.toList (len * P.cellsOf e) news).toArray) (O := both X (upd s.H (.real b) (some (.row true (P.cellsOf e) (xs ++ ys))))) b (P.cellsOf e) 0 (len + ys.length) cap _ ty (0, 0) hroom' hb' (by rw [hlen2, Nat.zero_add]; exact hfit)
          rwa [Nat.zero_mul] at this
        · refine newrow _ cap (cs.toList.take (len * P.cellsOf e)) hux (by omega) (by rw [hxl, ← hlen, List.length_take, Array.length_toList]; have := Nat.mul_le_mul_right (P.cellsOf e) hcap; omega) (fun i v p hv hp => ?_) ?_
          · have hi : i < len * P.cellsOf e := by
              have := (List.getElem?_eq_some_iff.1 hv).1
              simp at this; omega
            rw [List.getElem?_take_of_lt hi, Array.getElem?_toList] at hv
            exact hel _ _ _ hv hp
          · refine run_firstCells_some w.drew _ _ _ _ _ _ (by rw [List.length_take, Array.length_toList, hsz]; have := Nat.mul_le_mul_right (P.cellsOf e) hcap; omega) (fun j v hv => ?_)
            have hj : j < len * P.cellsOf e := by
              have := (List.getElem?_eq_some_iff.1 hv).1
              simp at this; omega
            rw [List.getElem?_take_of_lt hj, Array.getElem?_toList] at hv
            rw [Addr.add_mid, Nat.zero_add]
            rw [cell_at (w := w.drew) (cs := cs) (t := ty) (fr := (0, 0)) hb]
            exact hv

theorem splice_nil {α : Type} (xs : List α) (o : Nat) : splice xs o [] = xs := by simp [splice]

theorem flat_splice {sz : Nat} {xs ys : List PV} {lo : Nat} (hx : ∀ x ∈ xs, x.cells.length = sz) (hy : ∀ y ∈ ys, y.cells.length = sz) :
    flat (splice xs lo ys) = splice (flat xs) (lo * sz) (flat ys) := by
  unfold splice
  rw [flat_append, flat_append, flat_take hx, flat_drop hx, flat_len hy, Nat.add_mul]

theorem did_copy {n : Nat} {w0 : World} {O0 : Nat → Prop} {s : St} {a : Act} {o : Oper} {K : PV → Hp → Prop} (h : SR P n w0 O0 X s a w) {args : Array Operand} {ts : Array TypeId}
    (ho : o.op = .call ⟨.builtin .copy, args, ts⟩) {full : Bool} (hk : opEff P full s o.op K) : Did P n w0 O0 X s a w o K := by
  rw [ho] at hk
  obtain ⟨_, t0, t1, x, y, e, rfl, rfl, hu, hsrc, l, sz, lo, len, xs, ys, hx, hxs, rfl, hle, hys, hcells, hnz, hk⟩ := hk
  have hrow := ownRow_of hxs
  have vx := h.ev x
  have vy := h.ev y
  rw [hx] at vx
  obtain ⟨ie, hie, hsz⟩ := info_of_cells hnz
  obtain ⟨news, hS, hnl, hnel, hfirst⟩ := items_run hsrc h.heap vy hys hcells
  have hfy := flat_len (fun y hy => (hcells y hy).1)
  have hx0 : execOp a.eval o = (do pure (.value (← Builtin.copy_ #[t0, t1] o.type #[a.eval x, a.eval y]))) := by
    unfold execOp
    rw [ho]
    simp only [resolve, pure_bind, invoke]
    rw [show (#[x, y] : Array Operand).map a.eval = #[a.eval x, a.eval y] from by simp]
    rfl
  obtain ⟨ux, hux⟩ : ∃ u, a.eval x = u := ⟨_, rfl⟩
  rw [hux] at vx
  have hmin : min ys.length len ≤ ys.length := Nat.min_le_left _ _
  have hf := hfirst _ hmin
  have hlen' : ∀ w : World, (Builtin.lenOf (a.eval y)).run P w = .ok ys.length w := hS.len
  cases vx with
  | arr0 _ _ _ ad =>
    have hsame : upd s.H l (some (.row true (P.cellsOf e) (splice xs lo (ys.take 0)))) = s.H := by
      rw [List.take_zero, splice_nil]
      funext l'
      simp only [upd_apply]
      split
      · rename_i e; subst e; exact hrow.symm
      · rfl
    rw [hsame] at hk
    simp only [Nat.min_zero, Nat.zero_mul, List.take_zero] at hf hk
    refine ⟨_, w, _, _, .inl ?_, hk, h, .int _ _⟩
    rw [hx0, hux]
    cases ad <;> simp [Builtin.copy_, run_underlying hu, hlen', sizeOf, typeInfo, hie, hsz, hf, storeCells, goInt]
  | arr b _ _ _ cap cs0 t' fr hcap hb0 hfit =>
    obtain ⟨hxsz, hX, cs, ty, hb, hle', hel⟩ := h.heap _ _ _ _ hrow
    have hxl := flat_len hxsz
    have htk : ∀ y ∈ ys.take len, y.cells.length = P.cellsOf e := fun y hy => (hcells y (List.mem_of_mem_take hy)).1
    have hnew : (news.take ((min ys.length len) * P.cellsOf e)).length = (flat (ys.take len)).length := by
      rw [flat_len htk, List.length_take, List.length_take, hnl, hfy, Nat.min_comm len, ← Nat.mul_min_mul_right, Nat.min_comm (ys.length * P.cellsOf e)]
      omega
    have hfull : lo * P.cellsOf e + (flat (ys.take len)).length ≤ (flat xs).length := by
      rw [flat_len htk, hxl, ← Nat.add_mul]
      refine Nat.mul_le_mul_right _ ?_
      simp only [List.length_take]
      omega
    have hflt : flat (ys.take len) = (flat ys).take ((min ys.length len) * P.cellsOf e) := by
      have e1 : ys.take len = ys.take (min ys.length len) := by
        rw [List.take_eq_take_iff]; simp; omega
      rw [e1, flat_take (fun y hy => (hcells y hy).1)]
    have hval : ∀ (i : Nat) v p, (news.take ((min ys.length len) * P.cellsOf e))[i]? = some v → (flat (ys.take len))[i]? = some p → VR w (both X s.H) v p := by
      intro i v p hv hp
      rw [hflt] at hp
      have hi : i < (min ys.length len) * P.cellsOf e := by
        have := (List.getElem?_eq_some_iff.1 hv).1
        simp only [List.length_take] at this; omega
      rw [List.getElem?_take_of_lt hi] at hv hp
      exact hnel _ _ _ hv hp
    have hone : ∀ v ∈ news.take ((min ys.length len) * P.cellsOf e), v.oneCell' = true := fun v hv => hS.one v (List.mem_of_mem_take hv)
    have hst := run_storeCells_at (P := P) b (lo * P.cellsOf e) ty (news.take ((min ys.length len) * P.cellsOf e)) 0 cs w hb (by rw [hnew]; omega) hone
    obtain ⟨hcl, hcs⟩ := cl_splice (r := (splice cs.toList (lo * P.cellsOf e) (news.take ((min ys.length len) * P.cellsOf e))).toArray) ⟨hle', hel⟩ hnew hval (lo * P.cellsOf e) hfull rfl
    obtain ⟨hfr, hb'⟩ := setRow_heap' hb hcs
    rw [← flat_splice hxsz htk] at hcl
    have hs := h.write hrow hfr hb' (fun z hz => by
      unfold splice at hz
      rcases List.mem_append.1 hz with hz | hz
      · rcases List.mem_append.1 hz with hz | hz
        · exact hxsz z (List.mem_of_mem_take hz)
        · exact htk z hz
      · exact hxsz z (List.mem_of_mem_drop hz)) hcl
    refine ⟨_, _, _, _, .inl ?_, hk, hs, .int _ _⟩
    rw [hx0, hux]
    simp only [Nat.add_zero] at hst
    simp [Builtin.copy_, run_underlying hu, hlen', sizeOf, typeInfo, hie, hsz, hf, hst, goInt, splice]

theorem did_box {n : Nat} {w0 : World} {O0 : Nat → Prop} {s : St} {a : Act} {o : Oper} {K : PV → Hp → Prop} (h : SR P n w0 O0 X s a w) {t : TypeId} {x : Operand} (ho : o.op = .box t x) {full : Bool} (hk : opEff P full s o.op K) : Did P n w0 O0 X s a w o K := by
  rw [ho] at hk
  obtain ⟨hd, hk⟩ := hk
  have hc := (h.ev x).cells hd
  have hrun : (execOp a.eval o).run P w = .ok (.value (.pointer (some ⟨w.heap.size, 0, none⟩))) (w.alloc (.cells (a.eval x).cells t)) := by
    unfold execOp
    rw [ho]
    simp only [Instr.box, Sem.run_bind, newVar_run, Result.andThen_ok, Sem.run_pure, Nat.zero_mul, Nat.add_zero]
  rcases hk with hk | hk
  · have hfr := Fr.alloc w (.cells (a.eval x).cells t) (fun _ => False)
    refine ⟨_, _, _, _, .inl hrun, hk, h.keep hfr, .cptr w.heap.size 0 _ (a.eval x).cells.toList (by simp) ?_ ?_ ?_ ?_⟩
    · rintro (hb | ⟨sz, ys, e⟩)
      · exact absurd (h.lt _ hb) (Nat.lt_irrefl _)
      · have := fresh_none h.heap; rw [this] at e; cases e
    · simpa using hc.1
    · intro j v hv
      unfold World.cell?
      rw [heap_new]
      simpa using hv
    · intro i v p hv hp
      exact (hc.2 i v p (by simpa using hv) hp).keep hfr
  refine ⟨_, _, _, _, .inl ?_, hk (.real w.heap.size) (fresh_none h.heap), h.alloc t (cs := (a.eval x).cells) (fun y hy => by simp at hy; rw [hy]) (by rw [flat_one]; exact Nat.le_of_eq hc.1.symm) (fun i v p hv hp => hc.2 i v p hv (by rwa [flat_one] at hp)), .ref w.heap.size _ 0 0⟩
  unfold execOp
  rw [ho]
  simp only [Instr.box, Sem.run_bind, newVar_run, Result.andThen_ok, Sem.run_pure, Nat.zero_mul, Nat.add_zero]

theorem eff_run {n : Nat} {w0 : World} {O0 : Nat → Prop} {s : St} {a : Act} {o : Oper} {K : PV → Hp → Prop} (h : SR P n w0 O0 X s a w) {full : Bool} (hk : opEff P full s o.op K) : Did P n w0 O0 X s a w o K := by
  have hk' := hk
  unfold opEff at hk'
  split at hk'
  · rename_i t e; exact did_alloc h e hk
  · rename_i t x e; exact did_box h e hk
  · rename_i t x y e; exact did_store h e hk
  · rename_i t x y e; exact did_make h e hk
  · rename_i args ts e; exact did_append h e hk
  · rename_i args ts e; exact did_copy h e hk
  · exact hk'.elim

end
end Go.Proofs.Ytloecggdboingaa
namespace Go.Proofs.Ytloecggdboingaa
open Go.RowKit
set_option linter.unusedVariables false
set_option linter.unusedSimpArgs false

section
variable {P : Program} {w : World} {X : Nat → Prop} {H : Hp}

theorem mapM_get {α β : Type} {f : α → Option β} : ∀ {xs : List α} {ys : List β}, xs.mapM f = some ys → ys.length = xs.length ∧ ∀ (i : Nat) x, xs[i]? = some x → ∃ y, ys[i]? = some y ∧ f x = some y
  | [], ys, h => by
    simp at h; subst h
    exact ⟨rfl, fun i x h => by simp at h⟩
  | x :: xs, ys, h => by
    simp only [List.mapM_cons, Option.bind_eq_bind, Option.pure_def] at h
    obtain ⟨y, hy, h⟩ := Option.bind_eq_some_iff.1 h
    obtain ⟨zs, hz, h⟩ := Option.bind_eq_some_iff.1 h
    obtain rfl := Option.some.inj h
    obtain ⟨h1, h2⟩ := mapM_get hz
    refine ⟨by simp [h1], fun i u hu => ?_⟩
    cases i with
    | zero =>
      obtain rfl : x = u := by simpa using hu
      exact ⟨y, by simp, hy⟩
    | succ i =>
      obtain ⟨v, hv, hf⟩ := h2 i u (by simpa using hu)
      exact ⟨v, by simpa using hv, hf⟩
theorem mapM_back {α β : Type} {f : α → Option β} {xs : List α} {ys : List β} (h : xs.mapM f = some ys) {i : Nat} {y : β} (hy : ys[i]? = some y) : ∃ x, xs[i]? = some x ∧ f x = some y := by
  obtain ⟨h1, h2⟩ := mapM_get h
  have hi : i < xs.length := by rw [← h1]; exact (List.getElem?_eq_some_iff.1 hy).1
  obtain ⟨y', hy', hf⟩ := h2 i _ (List.getElem?_eq_getElem hi)
  rw [hy] at hy'
  obtain rfl := Option.some.inj hy'
  exact ⟨_, List.getElem?_eq_getElem hi, hf⟩

theorem closedL_get {keep : Bool} {cs : List PV} (h : closedL keep cs = true) {i : Nat} {c : PV} (hc : cs[i]? = some c) : closedB keep c = true := by
  rw [closedL_eq] at h
  exact List.all_eq_true.1 h c (mem_of_get hc)
theorem closed_cells {keep : Bool} {p : PV} (h : closedB keep p = true) {i : Nat} {c : PV} (hc : p.cells[i]? = some c) : closedB keep c = true := by
  cases p
  case agg cs =>
    simp only [closedB] at h
    exact closedL_get h hc
  all_goals
    cases i with
    | zero => simp [PV.cells] at hc; subst hc; exact h
    | succ i => simp [PV.cells] at hc

theorem norm_closed {keep : Bool} {n : Nat} {p : PV} (h : closedB keep p = true) : norm keep H (n + 1) p = some p := by
  rw [norm, if_pos h]

/-- The cells of what was written out are its cells written out. -/
theorem norm_cells {keep : Bool} {n : Nat} {p q : PV} (h : norm keep H n p = some q) : q.cells.length = p.cells.length ∧
    ∀ (i : Nat) c, p.cells[i]? = some c → ∃ d k, q.cells[i]? = some d ∧ k ≤ n ∧ norm keep H k c = some d := by
  cases n with
  | zero => simp [norm] at h
  | succ n =>
    by_cases hc : closedB keep p = true
    · rw [norm_closed hc] at h
      obtain rfl := Option.some.inj h
      exact ⟨rfl, fun i c hi => ⟨c, n + 1, hi, Nat.le_refl _, norm_closed (closed_cells hc hi)⟩⟩
    · have one : p.cells = [p] → q.cells = [q] → q.cells.length = p.cells.length ∧ ∀ (i : Nat) c, p.cells[i]? = some c → ∃ d k, q.cells[i]? = some d ∧ k ≤ n + 1 ∧ norm keep H k c = some d := by
        intro h1 h2
        rw [h1, h2]
        refine ⟨rfl, fun i c hi => ?_⟩
        cases i with
        | zero =>
          obtain rfl : p = c := by simpa using hi
          exact ⟨q, n + 1, rfl, Nat.le_refl _, h⟩
        | succ i => simp at hi
      have h' := h
      rw [norm, if_neg hc] at h'
      cases p <;> simp only [normStep, reduceCtorEq] at h'
      case agg cs =>
        obtain ⟨ds, hd, rfl⟩ := Option.map_eq_some_iff.1 h'
        obtain ⟨h1, h2⟩ := mapM_get hd
        exact ⟨h1, fun i c hi => by obtain ⟨d, hd, hn⟩ := h2 i c hi; exact ⟨d, n, hd, Nat.le_succ _, hn⟩⟩
      case list k xs => obtain ⟨ds, hd, rfl⟩ := Option.map_eq_some_iff.1 h'; exact one rfl rfl
      case arr l sz lo len =>
        split at h'
        · split at h'
          · obtain ⟨ds, hd, rfl⟩ := Option.map_eq_some_iff.1 h'; exact one rfl rfl
          · cases h'
        · cases h'
      case ref l sz i off =>
        split at h'
        · split at h'
          · obtain ⟨x, _, h'⟩ := Option.bind_eq_some_iff.1 h'
            obtain ⟨ds, hd, rfl⟩ := Option.map_eq_some_iff.1 h'; exact one rfl rfl
          · cases h'
        · cases h'
      case cptr cs => obtain ⟨ds, hd, rfl⟩ := Option.map_eq_some_iff.1 h'; exact one rfl rfl
      case fn f cs => obtain ⟨ds, hd, rfl⟩ := Option.map_eq_some_iff.1 h'; exact one rfl rfl
      case tup cs => obtain ⟨ds, hd, rfl⟩ := Option.map_eq_some_iff.1 h'; exact one rfl rfl
      case iface t v => obtain ⟨ds, hd, rfl⟩ := Option.map_eq_some_iff.1 h'; exact one rfl rfl

/-- Elements written out: the cells of the row. -/
theorem flat_norm {keep : Bool} {n sz : Nat} {xs ys : List PV} (h : xs.mapM (norm keep H n) = some ys) (hsz : ∀ x ∈ xs, x.cells.length = sz) :
    (∀ y ∈ ys, y.cells.length = sz) ∧ (flat ys).length = (flat xs).length ∧ ∀ (i : Nat) d, (flat ys)[i]? = some d → ∃ c k, (flat xs)[i]? = some c ∧ k ≤ n ∧ norm keep H k c = some d := by
  have hy : ∀ y ∈ ys, y.cells.length = sz := by
    intro y hy
    obtain ⟨i, hi⟩ := List.mem_iff_getElem?.1 hy
    obtain ⟨x, hx, hn⟩ := mapM_back h hi
    rw [(norm_cells hn).1, hsz x (mem_of_get hx)]
  refine ⟨hy, by rw [flat_len hy, flat_len hsz, (mapM_get h).1], fun i d hd => ?_⟩
  obtain ⟨a, y, j, hya, hj, rfl, hdj⟩ := flat_split hy hd
  obtain ⟨x, hx, hn⟩ := mapM_back h hya
  obtain ⟨hl, hcells⟩ := norm_cells hn
  have hjx : j < x.cells.length := by rw [hsz x (mem_of_get hx)]; exact hj
  obtain ⟨d', k, hd', hk, hnk⟩ := hcells j _ (List.getElem?_eq_getElem hjx)
  rw [hdj] at hd'
  obtain rfl := Option.some.inj hd'
  exact ⟨_, k, by rw [flat_get hsz a x j hx hj]; exact List.getElem?_eq_getElem hjx, hk, hnk⟩

theorem norm_VR {keep : Bool} {Hr : Hp} {O' : Nat → Prop} (hH : HR w X H) (hsub : ∀ l c, Hr l = some c → H l = some c) (hO : ∀ b, b < w.heap.size → O' b → both X H b)
    (hfree : ∀ b c, Hr (.real b) = some c → ¬ O' b) : ∀ (n : Nat) (p q : PV) (v : Value), VR w (both X H) v p → norm keep Hr n p = some q → VR w O' v q := by
  intro n
  induction n using Nat.strongRecOn with
  | _ n ih =>
    intro p q v hv h
    cases n with
    | zero => simp [norm] at h
    | succ n =>
      by_cases hc : closedB keep p = true
      · rw [norm_closed hc] at h
        obtain rfl := Option.some.inj h
        exact hv.less hO
      · rw [norm, if_neg hc] at h
        have pw : ∀ {cs ds : List PV}, cs.mapM (norm keep Hr n) = some ds → ∀ {vs : Array Value}, vs.size = cs.length → (∀ (i : Nat) v p, vs[i]? = some v → cs[i]? = some p → VR w (both X H) v p) →
            vs.size = ds.length ∧ ∀ (i : Nat) v p, vs[i]? = some v → ds[i]? = some p → VR w O' v p := by
          intro cs ds hd vs hl hel
          refine ⟨by rw [hl, (mapM_get hd).1], fun i v p hv hp => ?_⟩
          obtain ⟨x, hx, hn⟩ := mapM_back hd hp
          exact ih n (Nat.lt_succ_self _) x p v (hel i v x hv hx) hn
        cases hv with
        | undef v => exact absurd rfl hc
        | bool b => exact absurd rfl hc
        | int k n => exact absurd rfl hc
        | str s => exact absurd rfl hc
        | nilp => exact absurd rfl hc
        | nilf => exact absurd rfl hc
        | nili => exact absurd rfl hc
        | nilm => exact absurd rfl hc
        | mapr b => simp only [normStep, reduceCtorEq] at h
        | list k xs a cap sz cs g1 g2 g3 g4 g5 g6 g7 =>
          simp only [normStep] at h
          obtain ⟨ys, hy, rfl⟩ := Option.map_eq_some_iff.1 h
          obtain ⟨h1, h2, h3⟩ := flat_norm hy g5
          have hl := (mapM_get hy).1
          rw [← hl]
          refine .list _ ys a cap sz cs (by omega) (fun e => g2 ?_) (fun e => by rw [hl]; exact g3 (by split at e <;> first | exact e | cases e)) (by rw [h2]; exact g4) h1 (fun hne => ?_) (fun i v p hv hp => ?_)
          · split at e
            · exact e
            · cases e
          · obtain ⟨b, o, ha, hlt, hn, hr⟩ := g6 (by intro e; subst e; simp at hl; exact hne hl)
            exact ⟨b, o, ha, hlt, fun e => hn (hO b hlt e), hr⟩
          · obtain ⟨c, k', hc', hk', hn'⟩ := h3 i p hp
            exact ih k' (by omega) c p v (g7 i v c hv hc') hn'
        | arr0 l sz lo a =>
          simp only [normStep] at h
          split at h
          · split at h
            · obtain ⟨ys, hy, rfl⟩ := Option.map_eq_some_iff.1 h
              rw [List.take_zero] at hy
              obtain rfl : ys = [] := by simpa using hy.symm
              exact .list .any [] a 0 0 [] (Nat.le_refl _) (fun e => by cases e) (fun e => by cases e) rfl (fun x h => by cases h) (fun h => absurd rfl h) (fun i v p h => by simp at h)
            · cases h
          · cases h
        | arr b sz lo len cap cs0 t fr hcap hb0 hfit =>
          simp only [normStep] at h
          split at h
          · rename_i m sz' xs hm
            split at h
            · rename_i hh
              obtain ⟨rfl, hle⟩ := hh
              obtain ⟨ys, hy, rfl⟩ := Option.map_eq_some_iff.1 h
              obtain ⟨hsz, hX, cs, ty, hb, hcs, hel⟩ := hH _ _ _ _ (hsub _ _ hm)
              have hsz2 : ∀ x ∈ (xs.drop lo).take len, x.cells.length = sz := fun x hx => hsz x (List.mem_of_mem_drop (List.mem_of_mem_take hx))
              obtain ⟨h1, h2, h3⟩ := flat_norm hy hsz2
              have hl : ys.length = len := by rw [(mapM_get hy).1]; simp; omega
              have hflat : flat ((xs.drop lo).take len) = ((flat xs).drop (lo * sz)).take (len * sz) := by
                rw [flat_take (fun x hx => hsz x (List.mem_of_mem_drop hx)), flat_drop hsz]
              have hxl := flat_len hsz
              have hmul : lo * sz + len * sz ≤ xs.length * sz := by rw [← Nat.add_mul]; exact Nat.mul_le_mul_right _ hle
              have := VR.list (w := w) (O := O') .any ys (some ⟨b, lo * sz, none⟩) cap sz ((cs.toList.drop (lo * sz)).take (len * sz)) (by omega) (fun e => by cases e) (fun e => by cases e)
                (by rw [h2, hflat]; simp; omega) h1 (fun _ => ⟨b, lo * sz, rfl, lt_of_block hb, hfree b _ hm, fun j v hv => by
                  have hj : j < len * sz := by
                    have := (List.getElem?_eq_some_iff.1 hv).1
                    simp at this; omega
                  rw [List.getElem?_take_of_lt hj, List.getElem?_drop, Array.getElem?_toList] at hv
                  rw [cell_at hb]; exact hv⟩) (fun i v p hv hp => by
                  obtain ⟨c, k', hc', hk', hn'⟩ := h3 i p hp
                  rw [hflat] at hc'
                  have hi : i < len * sz := by
                    have := (List.getElem?_eq_some_iff.1 hv).1
                    simp at this; omega
                  rw [List.getElem?_take_of_lt hi, List.getElem?_drop] at hv hc'
                  exact ih k' (by omega) c p v (hel _ v c (by rwa [Array.getElem?_toList] at hv) hc') hn')
              rwa [hl] at this
            · cases h
          · cases h
        | ref b sz i off =>
          simp only [normStep] at h
          split at h
          · rename_i m sz' xs hm
            split at h
            · rename_i hh
              subst hh
              obtain ⟨x, hx, h⟩ := Option.bind_eq_some_iff.1 h
              obtain ⟨ds, hd, rfl⟩ := Option.map_eq_some_iff.1 h
              obtain ⟨hsz, hX, cs, ty, hb, hcs, hel⟩ := hH _ _ _ _ (hsub _ _ hm)
              have hxs := hsz x (mem_of_get hx)
              have hxl := flat_len hsz
              have hi : i < xs.length := (List.getElem?_eq_some_iff.1 hx).1
              have hmul : i * sz + sz ≤ xs.length * sz := by
                have := Nat.mul_le_mul_right sz (Nat.succ_le_of_lt hi)
                rwa [Nat.succ_mul] at this
              have hdl := (mapM_get hd).1
              refine .cptr b _ ds ((cs.toList.drop (i * sz + off)).take ds.length) (lt_of_block hb) (hfree b _ hm) (by rw [List.length_take, List.length_drop, Array.length_toList (xs := cs)]; rw [List.length_drop] at hdl; omega) (fun j v hv => ?_) (fun j v p hv hp => ?_)
              · have hj : j < ds.length := by
                  have := (List.getElem?_eq_some_iff.1 hv).1
                  simp at this; omega
                rw [List.getElem?_take_of_lt hj, List.getElem?_drop, Array.getElem?_toList] at hv
                rw [cell_at hb]; exact hv
              · obtain ⟨c, hc', hn'⟩ := mapM_back hd hp
                have hj : j < ds.length := (List.getElem?_eq_some_iff.1 hp).1
                rw [List.getElem?_take_of_lt hj, List.getElem?_drop, Array.getElem?_toList] at hv
                rw [List.getElem?_drop] at hc'
                have hoj : off + j < sz := by rw [← hxs]; exact (List.getElem?_eq_some_iff.1 hc').1
                refine ih n (Nat.lt_succ_self _) c p v (hel _ v c hv ?_) hn'
                rw [Nat.add_assoc, flat_get hsz i x (off + j) hx hoj]
                exact hc'
            · cases h
          · cases h
        | cptr b o ps cs hlt hn hl hmem hel =>
          simp only [normStep] at h
          obtain ⟨ds, hd, rfl⟩ := Option.map_eq_some_iff.1 h
          refine .cptr b o ds cs hlt (fun e => hn (hO b hlt e)) (by rw [hl, (mapM_get hd).1]) hmem (fun i v p hv hp => ?_)
          obtain ⟨x, hx, hn'⟩ := mapM_back hd hp
          exact ih n (Nat.lt_succ_self _) x p v (hel i v x hv hx) hn'
        | fn f ps vs hl hel =>
          simp only [normStep] at h
          obtain ⟨ds, hd, rfl⟩ := Option.map_eq_some_iff.1 h
          obtain ⟨h1, h2⟩ := pw hd hl hel
          exact .fn f ds vs h1 h2
        | agg ps vs hl hel =>
          simp only [normStep] at h
          obtain ⟨ds, hd, rfl⟩ := Option.map_eq_some_iff.1 h
          obtain ⟨h1, h2⟩ := pw hd hl hel
          exact .agg ds vs h1 h2
        | tup ps vs hl hel =>
          simp only [normStep] at h
          obtain ⟨ds, hd, rfl⟩ := Option.map_eq_some_iff.1 h
          obtain ⟨h1, h2⟩ := pw hd hl hel
          exact .tup ds vs h1 h2
        | iface t v p hv =>
          simp only [normStep] at h
          obtain ⟨d, hd, rfl⟩ := Option.map_eq_some_iff.1 h
          exact .iface t v d (ih n (Nat.lt_succ_self _) p d v hv hd)

mutual
theorem scalar_VR {O O' : Nat → Prop} : ∀ (p : PV) (v : Value), scalarB p = true → VR w O v p → VR w O' v p
  | .undef, v, _, h => .undef v
  | .bool b, v, _, h => by rw [h.bool_inv]; exact .bool b
  | .int k n, v, _, h => by rw [h.int_inv]; exact .int k n
  | .str s, v, _, h => by rw [h.str_inv]; exact .str s
  | .nilp, v, _, h => by cases h; exact .nilp
  | .nilf, v, _, h => by cases h; exact .nilf
  | .nili, v, _, h => by cases h; exact .nili
  | .nilm, v, _, h => by cases h; exact .nilm
  | .agg cs, v, hs, h => by
    obtain ⟨vs, rfl, h1, h2⟩ := h.agg_inv
    simp only [scalarB] at hs
    exact .agg cs vs h1 (scalarL_VR cs vs hs h2)
  | .tup cs, v, hs, h => by
    obtain ⟨vs, rfl, h1, h2⟩ := h.tup_inv
    simp only [scalarB] at hs
    exact .tup cs vs h1 (scalarL_VR cs vs hs h2)
theorem scalarL_VR {O O' : Nat → Prop} : ∀ (cs : List PV) (vs : Array Value), scalarL cs = true → (∀ (i : Nat) v p, vs[i]? = some v → cs[i]? = some p → VR w O v p) → ∀ (i : Nat) v p, vs[i]? = some v → cs[i]? = some p → VR w O' v p
  | [], vs, _, h, i, v, p, hv, hp => by simp at hp
  | c :: cs, vs, hs, h, i, v, p, hv, hp => by
    simp only [scalarL, Bool.and_eq_true] at hs
    cases i with
    | zero =>
      obtain rfl : c = p := by simpa using hp
      exact scalar_VR c v hs.1 (h 0 v c hv rfl)
    | succ i =>
      refine scalarL_VR cs (vs.extract 1 vs.size) hs.2 (fun j u q hu hq => h (j + 1) u q ?_ (by simpa using hq)) i v p ?_ (by simpa using hp)
      · rw [Array.getElem?_extract] at hu
        split at hu
        · rw [Nat.add_comm]; exact hu
        · cases hu
      · have hlt : i + 1 < vs.size := (Array.getElem?_eq_some_iff.1 hv).1
        rw [Array.getElem?_extract, if_pos (by omega), Nat.add_comm]
        exact hv
end

theorem SR.frozen {n : Nat} {w0 : World} {O0 : Nat → Prop} {s : St} {a : Act} (h : SR P n w0 O0 X s a w) (L : List Lab) : SR P n w0 O0 X { s with H := frz L s.H } a w := by
  have hown : ∀ b, own (frz L s.H) b → own s.H b := by
    rintro b ⟨sz, xs, e⟩
    unfold frz at e
    split at e
    · obtain ⟨c, hc, e⟩ := Option.map_eq_some_iff.1 e
      cases c
      simp [Chunk.frz] at e
    · exact ⟨sz, xs, e⟩
  have hO : ∀ b, both X (frz L s.H) b → both X s.H b := fun b hb => hb.imp id (hown b)
  refine ⟨h.size, h.defers, fun i => (h.env i).less (fun b _ => hO b), ?_, h.fr, fun b hb => h.new b (hown b hb), h.lt⟩
  intro l m sz xs hl
  have hl : frz L s.H l = some (.row m sz xs) := hl
  obtain ⟨m', hl'⟩ : ∃ m', s.H l = some (.row m' sz xs) := by
    unfold frz at hl
    split at hl
    · obtain ⟨c, hc, e⟩ := Option.map_eq_some_iff.1 hl
      cases c
      simp only [Chunk.frz, Chunk.row.injEq] at e
      obtain ⟨_, rfl, rfl⟩ := e
      exact ⟨_, hc⟩
    · exact ⟨m, hl⟩
  obtain ⟨h1, h2⟩ := h.heap l m' sz xs hl'
  refine ⟨h1, ?_⟩
  cases l with
  | virt j => exact h2
  | real b =>
    obtain ⟨h3, cs, t, hb, h4, h5⟩ := h2
    exact ⟨h3, cs, t, hb, h4, fun i v p hv hp => (h5 i v p hv hp).less (fun b _ => hO b)⟩

theorem norms_VR {keep : Bool} {Hr : Hp} {O' : Nat → Prop} {n : Nat} {as as' : List PV} {vs : Array Value} (hH : HR w X H) (hsub : ∀ l c, Hr l = some c → H l = some c) (hO : ∀ b, b < w.heap.size → O' b → both X H b)
    (hfree : ∀ b c, Hr (.real b) = some c → ¬ O' b) (hv : VRs w (both X H) vs as) (h : as.mapM (norm keep Hr n) = some as') : VRs w O' vs as' := by
  refine ⟨by rw [hv.1, (mapM_get h).1], fun i v p hvi hp => ?_⟩
  obtain ⟨x, hx, hn⟩ := mapM_back h hp
  exact norm_VR hH hsub hO hfree n x p v (hv.2 i v x hvi hx) hn

/-- What a call does in a frame. -/
theorem call_run {n : Nat} {w0 : World} {O0 : Nat → Prop} {s : St} {a : Act} {f : FuncId} {as : List PV} {vs : Array Value} {K : PV → Hp → Prop} (h : SR P n w0 O0 X s a w) (hv : VRs w (both X s.H) vs as) (hc : CallOK P f as s.H K) :
    callable P f = true ∧ Calls P f vs w fun e w' => ∃ v r H', e = .returned v ∧ K r H' ∧ SR P n w0 O0 X { s with H := H' } a w' ∧ VR w' (both X H') v r := by
  rcases hc with ⟨keep, m, as', r, hn, hs, hp, hK⟩ | ⟨keep, m, L, as', r, hn, hp, hK⟩ | hG
  · obtain ⟨hcall, hp⟩ := hp
    refine ⟨hcall, (hp w (fun _ => False) vs (fun _ h => h.elim) (norms_VR h.heap (fun _ _ h => h) (fun _ _ h => h.elim) (fun _ _ _ h => h) hv hn)).mono ?_⟩
    rintro e w' ⟨v, rfl, hb, hr⟩
    exact ⟨v, r, s.H, rfl, hK, h.keep (Fr.of_below hb _), scalar_VR r v hs hr⟩
  · obtain ⟨hcall, hp⟩ := hp
    have hown : ∀ b, own (frz L s.H) b → own s.H b ∧ Lab.real b ∉ L := by
      rintro b ⟨sz, xs, e⟩
      unfold frz at e
      split at e
      · obtain ⟨c, hc, e⟩ := Option.map_eq_some_iff.1 e
        cases c
        simp [Chunk.frz] at e
      · rename_i hnot
        exact ⟨⟨sz, xs, e⟩, hnot⟩
    have hs' := h.frozen L
    refine ⟨hcall, (hp w (both X (frz L s.H)) vs (fun b hb => hb.elim (h.lt b) (own_lt hs'.heap)) (norms_VR h.heap (fun l c hl => ?_) (fun b _ hb => hb.imp id (fun e => (hown b e).1)) (fun b c hb hO => ?_) hv hn)).mono ?_⟩
    · unfold restr at hl
      split at hl
      · exact hl
      · cases hl
    · unfold restr at hb
      split at hb
      · rename_i hin
        rcases hO with hX | ho
        · obtain ⟨m', sz, xs⟩ := c
          exact (h.heap _ _ _ _ hb).2.1 hX
        · exact (hown b ho).2 hin
      · cases hb
    · rintro e w' ⟨v, rfl, hb, hr⟩
      exact ⟨v, r, _, rfl, hK, hs'.keep (Fr.of_below hb _), hr⟩
  · obtain ⟨hcall, hp⟩ := hG
    refine ⟨hcall, (hp w X vs h.lt h.heap hv).mono ?_⟩
    rintro e w' ⟨v, r, H', rfl, hf, hH', hown, hr, hK⟩
    refine ⟨v, r, H', rfl, hK, ⟨h.size, h.defers, fun i => ?_, hH', h.fr.trans hf (fun b hb ho => ?_), fun b hb => ?_, fun b hb => Nat.lt_of_lt_of_le (h.lt b hb) hf.size⟩, hr⟩
    · exact (h.env i).mono (fun b hb hn => hf.block b hb (fun e => hn (.inr e))) (fun b hb ho => ho.imp id (fun e => (hown b e).resolve_right (by omega)))
        (fun b cs t fr e => by obtain ⟨cs', e', hs⟩ := hf.shape b cs t fr e; exact ⟨cs', fr, e', hs⟩)
    · rcases h.new b ho with h' | h'
      · exact h'
      · omega
    · rcases hown b hb with h' | h'
      · exact h.new b h'
      · exact .inr (Nat.le_trans h.fr.size h')

end
end Go.Proofs.Ytloecggdboingaa
namespace Go.Proofs.Ytloecggdboingaa
open Go.RowKit
set_option linter.unusedVariables false
set_option linter.unusedSimpArgs false

section
variable {P : Program} {X0 : Nat → Prop}

theorem getD_some {a : Act} {d : Nat} {v : Value} (h : a.tmps.getD d undef = v) (hv : v ≠ undef) : a.tmps[d]? = some v := by
  rw [Array.getD_eq_getD_getElem?] at h
  cases e : a.tmps[d]? with
  | none => rw [e] at h; exact absurd h.symm hv
  | some u => rw [e] at h; rw [← h]; rfl

theorem enter_run {w : World} {a : Act} {o : Oper} {g : Operand} {args : Array Operand} {ts : Array TypeId} {f : FuncId} {caps : Array Value} (ho : o.op = .call ⟨.value g, args, ts⟩) (hg : a.eval g = .func (.func f) #[] caps)
    (hc : callable P f = true) : (execOp a.eval o).run P w = .ok (.enter f (args.map a.eval ++ caps)) w := by
  unfold callable at hc
  split at hc
  · rename_i fn hf
    simp only [Bool.and_eq_true, bne_iff_ne, ne_eq] at hc
    have hn : (fn.name == "runtime.NumGoroutine") = false := by simpa using hc.1
    have hb : fn.body.isNone = false := by
      cases e : fn.body with
      | none => rw [e] at hc; simp at hc
      | some b => rfl
    unfold execOp
    rw [ho]
    have hb2 : ¬ fn.body = none := by intro e; rw [e] at hb; cases hb
    simp only [resolve, hg, Deferred.ofValue, pure_bind, invoke, callFunc]
    simp [hf, hb2, hc.1]
  · cases hc

theorem VRs.append {w : World} {O : Nat → Prop} {vs us : Array Value} {ps qs : List PV} (h : VRs w O vs ps) (k : VRs w O us qs) : VRs w O (vs ++ us) (ps ++ qs) := by
  refine ⟨by simp [h.1, k.1], fun i v p hv hp => ?_⟩
  rcases Nat.lt_or_ge i vs.size with h1 | h1
  · rw [Array.getElem?_append_left h1] at hv
    rw [List.getElem?_append_left (by rw [← h.1]; exact h1)] at hp
    exact h.2 i v p hv hp
  · rw [Array.getElem?_append_right h1] at hv
    rw [List.getElem?_append_right (by rw [← h.1]; exact h1), ← h.1] at hp
    exact k.2 _ v p hv hp

/-- One operation. -/
theorem top_wp {n : Nat} {w0 w : World} {O0 : Nat → Prop} {s : St} {a : Act} {o : Oper} {K : St → Prop} {Q : Exit → Act → World → Prop} {N : Act → World → Prop} (h : SR P n w0 O0 X0 s a w) (hd : ∀ t, o.dst = some t → t < n)
    (hk : Top P o s K) (hN : ∀ s a w, SR P n w0 O0 X0 s a w → K s → N a w) : o.wp P a w N Q := by
  unfold Oper.wp
  unfold Top at hk
  split at hk
  · rename_i g args ts ho
    split at hk
    · rename_i f caps hg
      have hvg := h.ev g
      rw [hg] at hvg
      obtain ⟨vs, hvs, hcaps⟩ := hvg.fn_inv
      obtain ⟨hcall, hrun⟩ := call_run h ((VRs.of_map (fun x => h.ev x) args).append hcaps) hk
      rw [enter_run ho hvs hcall, Oper.upon_enter]
      refine hrun.mono ?_
      rintro e w' ⟨v, r, H', rfl, hK, hs, hr⟩
      exact hN _ _ _ (hs.put o.dst hd (Fr.refl _ _) hr) hK
    · exact hk.elim
  · split at hk
    · obtain ⟨v, w', p, H', hrun, hK, hs, hr⟩ := eff_run h (full := true) hk
      rcases hrun with hrun | ⟨hrun, rfl⟩
      · rw [hrun, Oper.upon_value]
        exact hN _ _ _ (hs.put o.dst hd (Fr.refl _ _) hr) hK
      · rw [hrun, Oper.upon_skip]
        exact hN _ _ _ (hs.put o.dst hd (Fr.refl _ _) hr) hK
    · obtain ⟨v, hv, hK⟩ := hk
      obtain ⟨u, w', hrun, hf, hr⟩ := opVal_run h.lt h.heap (fun x => h.ev x) hv
      rw [hrun, Oper.upon_value]
      exact hN _ _ _ (h.put o.dst hd hf hr) hK

theorem mapM_mono {α β : Type} {f g : α → Option β} (h : ∀ x y, f x = some y → g x = some y) : ∀ {xs : List α} {ys : List β}, xs.mapM f = some ys → xs.mapM g = some ys
  | [], ys, e => by simpa using e
  | x :: xs, ys, e => by
    simp only [List.mapM_cons, Option.bind_eq_bind, Option.pure_def] at e ⊢
    obtain ⟨y, hy, e⟩ := Option.bind_eq_some_iff.1 e
    obtain ⟨zs, hz, e⟩ := Option.bind_eq_some_iff.1 e
    rw [h x y hy, Option.bind_some, mapM_mono h hz, Option.bind_some]
    exact e

theorem norm_mono {keep : Bool} {Hr H : Hp} (hsub : ∀ l c, Hr l = some c → H l = some c) : ∀ (n : Nat) (p q : PV), norm keep Hr n p = some q → norm keep H n p = some q := by
  intro n
  induction n with
  | zero => intro p q h; simp [norm] at h
  | succ n ih =>
    intro p q h
    rw [norm] at h ⊢
    split at h
    · rename_i hc; rw [if_pos hc]; exact h
    · rename_i hc
      rw [if_neg hc]
      have mm := fun (xs ys : List PV) (e : xs.mapM (norm keep Hr n) = some ys) => mapM_mono ih e
      cases p <;> simp only [normStep, reduceCtorEq] at h ⊢
      case list k xs => obtain ⟨ys, hy, rfl⟩ := Option.map_eq_some_iff.1 h; rw [mm _ _ hy]; rfl
      case arr l sz lo len =>
        cases hl : Hr l with
        | none => simp [hl] at h
        | some c =>
          rw [hl] at h
          rw [hsub _ _ hl]
          cases c
          simp only at h ⊢
          split at h
          · rename_i hh; rw [if_pos hh]; obtain ⟨ys, hy, rfl⟩ := Option.map_eq_some_iff.1 h; rw [mm _ _ hy]; rfl
          · cases h
      case ref l sz i off =>
        cases hl : Hr l with
        | none => simp [hl] at h
        | some c =>
          rw [hl] at h
          rw [hsub _ _ hl]
          cases c
          simp only at h ⊢
          split at h
          · rename_i hh; rw [if_pos hh]
            obtain ⟨x, hx, h⟩ := Option.bind_eq_some_iff.1 h
            rw [hx, Option.bind_some]
            obtain ⟨ys, hy, rfl⟩ := Option.map_eq_some_iff.1 h; rw [mm _ _ hy]; rfl
          · cases h
      case cptr cs => obtain ⟨ys, hy, rfl⟩ := Option.map_eq_some_iff.1 h; rw [mm _ _ hy]; rfl
      case fn f cs => obtain ⟨ys, hy, rfl⟩ := Option.map_eq_some_iff.1 h; rw [mm _ _ hy]; rfl
      case agg cs => obtain ⟨ys, hy, rfl⟩ := Option.map_eq_some_iff.1 h; rw [mm _ _ hy]; rfl
      case tup cs => obtain ⟨ys, hy, rfl⟩ := Option.map_eq_some_iff.1 h; rw [mm _ _ hy]; rfl
      case iface t v => obtain ⟨y, hy, rfl⟩ := Option.map_eq_some_iff.1 h; rw [ih _ _ hy]; rfl

theorem rowOf_mono {Hr H : Hp} (hsub : ∀ l c, Hr l = some c → H l = some c) {l : Lab} {sz : Nat} {xs : List PV} (h : rowOf Hr l sz = some xs) : rowOf H l sz = some xs := by
  unfold rowOf at h ⊢
  cases hl : Hr l with
  | none => simp [hl] at h
  | some c => rw [hl] at h; rw [hsub _ _ hl]; exact h

theorem opVal_mono {Hr : Hp} {s : St} (hsub : ∀ l c, Hr l = some c → s.H l = some c) {op : Op} {v : PV} (h : opVal P { s with H := Hr } op = some v) : opVal P s op = some v := by
  cases op
  case load t x =>
    simp only [opVal] at h ⊢
    have he : evo { s with H := Hr } x = evo s x := by cases x <;> rfl
    rw [he] at h
    generalize evo s x = px at h ⊢
    cases px <;> simp only [reduceCtorEq] at h ⊢
    · obtain ⟨xs, hx, h⟩ := Option.bind_eq_some_iff.1 h
      rw [rowOf_mono hsub hx]
      exact h
    · exact h
  case makeFunc fn f c => cases fn <;> exact h
  case call c =>
    obtain ⟨callee, args, ts⟩ := c
    cases callee with
    | value g => exact h
    | invoke r m => exact h
    | builtin b => cases b <;> exact h
  all_goals exact h

theorem itemsOf_mono {Hr H : Hp} (hsub : ∀ l c, Hr l = some c → H l = some c) {p : PV} {ys : List PV} (h : itemsOf Hr p = some ys) : itemsOf H p = some ys := by
  cases p <;> try exact h
  case arr l sz lo len =>
    simp only [itemsOf] at h ⊢
    obtain ⟨xs, hx, h⟩ := Option.bind_eq_some_iff.1 h
    rw [rowOf_mono hsub hx]
    exact h

theorem restr_nil (H : Hp) : restr [] H = fun _ => none := by funext l; simp [restr]
theorem frz_nil (H : Hp) : frz [] H = H := by funext l; simp [frz]

theorem TopQ.top {o : Oper} {Hr : Hp} {s : St} {K : St → Prop} (hsub : ∀ l c, Hr l = some c → s.H l = some c) (h : TopQ P o Hr s K) : Top P o s K := by
  unfold TopQ at h
  unfold Top
  split at h
  · rename_i g args ts ho
    simp only [ho]
    split at h
    · rename_i f caps hg
      rcases h with ⟨keep, n, as', r, hn, hs, hp, hK⟩ | ⟨keep, n, as', r, hn, hp, hK⟩
      · exact .inl ⟨keep, n, as', r, mapM_mono (norm_mono hsub n) hn, hs, hp, hK⟩
      · refine .inr (.inl ⟨keep, n, [], as', r, by rw [restr_nil] at hn ⊢; exact hn, hp, ?_⟩)
        rw [frz_nil]
        exact hK
    · exact h.elim
  · rename_i t ho
    simp only [ho, isEff, if_true]
    exact h
  · rename_i t x ho
    simp only [ho, isEff, if_true]
    exact ⟨h.1, .inr h.2⟩
  · rename_i args ts ho
    simp only [ho, isEff, if_true]
    obtain ⟨t0, t1, x, y, e, rfl, rfl, hu, hsrc, ys, hys, hcells, hz, h1, h2, k, xs, hx, hk, hxs, hroom, hK⟩ := h
    refine ⟨t0, t1, x, y, e, rfl, rfl, hu, hsrc, ys, itemsOf_mono hsub hys, hcells, hz, h1, h2, ?_⟩
    simp only [hx]
    refine ⟨hk, hxs, hroom, ?_⟩
    split at hK
    · rename_i hy; rw [if_pos hy]; exact hK
    · rename_i hy; rw [if_neg hy]; exact hK
  · rename_i h1 h2 h3 h4
    obtain ⟨hE, v, hv, hK⟩ := h
    split
    · rename_i g args ts ho; exact absurd ho (h1 _ _ _)
    · rw [hE]
      exact ⟨v, opVal_mono hsub hv, hK⟩

/-- A guard decides whether its operation runs. -/
theorem guard_wp {n : Nat} {w0 w : World} {O0 : Nat → Prop} {s : St} {a : Act} {ops : Array Oper} {o : Oper} {Y N : Prop} (h : SR P n w0 O0 X0 s a w) (hg : Tguard ops o s Y N) :
    (Region.wanted o (yielded ops a.tmps) = true ∧ Y) ∨ (Region.wanted o (yielded ops a.tmps) = false ∧ N) := by
  unfold Tguard at hg
  unfold Region.wanted
  split at hg
  · rename_i e; exact .inl ⟨by rw [e], hg⟩
  · rename_i j want e
    rw [e]
    split at hg
    · rename_i d hd
      have hv := h.env d
      split at hg
      · rename_i b hb
        rw [hb] at hv
        have ht := getD_some hv.bool_inv (by intro e; cases e)
        have hy : yielded ops a.tmps j = some b := by simp [yielded, hd, ht]
        split at hg
        · rename_i hbw; subst hbw; exact .inl ⟨by simp [hy], hg⟩
        · rename_i hbw; exact .inr ⟨by simp [hy, hbw], hg⟩
      · rename_i hb
        rw [hb] at hv
        obtain ⟨vs, hvs, hl, _⟩ := hv.tup_inv
        obtain rfl : vs = #[] := Array.eq_empty_of_size_eq_zero hl
        refine .inr ⟨?_, hg⟩
        have hy : yielded ops a.tmps j = none := by
          unfold yielded
          rw [hd, Option.bind_some]
          rw [Array.getD_eq_getD_getElem?] at hvs
          cases e' : a.tmps[d]? with
          | none => rfl
          | some u => rw [e'] at hvs; simp only [Option.getD_some] at hvs; rw [hvs]
        simp [hy]
      · exact hg.elim
    · exact hg.elim

theorem skip_SR {n : Nat} {w0 w : World} {O0 : Nat → Prop} {s : St} {a : Act} {o : Oper} (h : SR P n w0 O0 X0 s a w) (hd : ∀ t, o.dst = some t → t < n) : SR P n w0 O0 X0 (s.put o.dst (.tup [])) (a.put o.dst undef) w :=
  h.put o.dst hd (Fr.refl _ _) (.tup [] #[] rfl (fun i v p hv hp => by simp at hp))

theorem tops_wp {n : Nat} {w0 : World} {O0 : Nat → Prop} {ops : Array Oper} {Q : Exit → Act → World → Prop} {K : St → Prop} (hN : ∀ s a w, SR P n w0 O0 X0 s a w → K s → Q .normal a w) :
    ∀ (l : List Oper) (s : St) (a : Act) (w : World), (∀ o ∈ l, ∀ t, o.dst = some t → t < n) → SR P n w0 O0 X0 s a w → Tops P ops l s K → wpList P ops Q l a w
  | [], s, a, w, _, h, hk => hN s a w h hk
  | o :: rest, s, a, w, hd, h, hk => by
    have ih := tops_wp (ops := ops) hN rest
    have hdo := hd o List.mem_cons_self
    have hdr : ∀ o ∈ rest, ∀ t, o.dst = some t → t < n := fun o ho => hd o (List.mem_cons_of_mem _ ho)
    unfold wpList
    rcases guard_wp h hk with ⟨hw, hk⟩ | ⟨hw, hk⟩
    · rw [if_pos hw]
      exact .inl (top_wp h hdo hk (fun s a w hs hK => ih s a w hdr hs hK))
    · rw [if_neg (by rw [hw]; simp)]
      exact ih _ _ _ hdr (skip_SR h hdo) hk

end
end Go.Proofs.Ytloecggdboingaa
namespace Go.Proofs.Ytloecggdboingaa
open Go.RowKit
set_option linter.unusedVariables false
set_option linter.unusedSimpArgs false

section
variable {P : Program} {X0 : Nat → Prop}

/-! ### Exchanging two operations -/
theorem evo_put {s : St} {d : Option Tmp} {v : PV} {x : Operand} (h : ∀ t, d = some t → x ≠ .tmp t) : evo (s.put d v) x = evo s x := by
  cases d with
  | none => rfl
  | some t =>
    cases x with
    | tmp u =>
      have : u ≠ t := fun e => h t rfl (by rw [e])
      simp [evo, St.put, upd_apply, this]
    | _ => rfl
theorem put_comm {s : St} {d e : Option Tmp} {v u : PV} (h : ∀ t, d = some t → e ≠ some t) : (s.put d v).put e u = (s.put e u).put d v := by
  cases d with
  | none => rfl
  | some a =>
    cases e with
    | none => rfl
    | some b =>
      have hab : a ≠ b := fun e => h a rfl (by rw [e])
      simp only [St.put, St.mk.injEq, and_true]
      funext x
      simp only [upd_apply]
      split <;> split <;> simp_all
theorem upd_comm {H : Hp} {l k : Lab} {c d : Option Chunk} (h : l ≠ k) : upd (upd H l c) k d = upd (upd H k d) l c := by
  funext x
  simp only [upd_apply]
  split <;> split <;> simp_all
theorem put_H {s : St} {d : Option Tmp} {v : PV} (H : Hp) : ({ s with H := H } : St).put d v = { s.put d v with H := H } := by cases d <;> rfl
theorem put_H' {s : St} {d : Option Tmp} {v : PV} : (s.put d v).H = s.H := by cases d <;> rfl

/-- The operands that an operation looks at. -/
def sees (ops : Array Oper) (o : Oper) (x : Operand) : Prop := x ∈ o.op.operands ∨ ∃ j want d, o.guard = some (j, want) ∧ (ops[j]?).bind (·.dst) = some d ∧ x = .tmp d

/-- What an operation that writes nothing does: a value, or a new piece of memory; it hangs on its operands alone. -/
inductive QS (P : Program) (Hr : Hp) (s : St) (o : Oper) (K : St → Prop) : Prop where
  | val (v : PV) (hv : ∀ s' : St, (∀ x ∈ o.op.operands, evo s' x = evo s x) → ∀ K' : St → Prop, K' (s'.put o.dst v) → TopQ P o Hr s' K') (hK : K (s.put o.dst v))
  | new (mk : Lab → PV) (c : Chunk) (hm : makes o = true) (hv : ∀ s' : St, (∀ x ∈ o.op.operands, evo s' x = evo s x) → ∀ K' : St → Prop, (∀ l, s'.H l = none → K' ({ s' with H := upd s'.H l (some c) }.put o.dst (mk l))) → TopQ P o Hr s' K')
      (hK : ∀ l, s.H l = none → K ({ s with H := upd s.H l (some c) }.put o.dst (mk l)))

theorem opVal_congr {s s' : St} {Hr : Hp} {op : Op} {v : PV} (hE : isEff op = false) (hno : ∀ g args ts, op ≠ .call ⟨.value g, args, ts⟩) (he : ∀ x ∈ op.operands, evo s' x = evo s x)
    (h : opVal P { s with H := Hr } op = some v) : opVal P { s' with H := Hr } op = some v := by
  have e1 : ∀ x, evo { s with H := Hr } x = evo s x := fun x => by cases x <;> rfl
  have e2 : ∀ x, evo { s' with H := Hr } x = evo s' x := fun x => by cases x <;> rfl
  rw [← h]
  cases op <;> simp only [Op.operands] at he <;> (try rfl)
  case move x => simp only [opVal, e1, e2, he x (by simp)]
  case assign x => simp only [opVal, e1, e2, he x (by simp)]
  case pick c x y => simp only [opVal, e1, e2, he c (by simp), he x (by simp), he y (by simp)]
  case binOp op t x y yt => simp only [opVal, e1, e2, he x (by simp), he y (by simp)]
  case unOp op t x => simp only [opVal, e1, e2, he x (by simp)]
  case convert t u x => simp only [opVal, e1, e2, he x (by simp)]
  case extract x i => simp only [opVal, e1, e2, he x (by simp)]
  case field t x f => simp only [opVal, e1, e2, he x (by simp)]
  case makeFunc fn fst caps =>
    cases fn <;> try rfl
    have hm : caps.toList.map (evo { s' with H := Hr }) = caps.toList.map (evo { s with H := Hr }) := List.map_congr_left fun x hx => by rw [e1, e2]; exact he x (by simp at hx ⊢; exact .inr hx)
    simp only [opVal, hm]
  case fieldAddr t x f => simp only [opVal, e1, e2, he x (by simp)]
  case indexAddr t x i => simp only [opVal, e1, e2, he x (by simp), he i (by simp)]
  case load t x => simp only [opVal, e1, e2, he x (by simp)]
  case index t x i => simp only [opVal, e1, e2, he x (by simp), he i (by simp)]
  case makeInterface t x => simp only [opVal, e1, e2, he x (by simp)]
  case build t ps =>
    have hm : (ps.toList.map fun q => (q.1, evo { s' with H := Hr } q.2)) = ps.toList.map fun q => (q.1, evo { s with H := Hr } q.2) := List.map_congr_left fun q hq => by
      rw [e1, e2, he q.2 (by simp; exact ⟨q.1, by simpa using hq⟩)]
    simp only [opVal, hm]
  case buildSlice t n ps =>
    have hm : (ps.toList.map fun q => evo { s' with H := Hr } q.2) = ps.toList.map fun q => evo { s with H := Hr } q.2 := List.map_congr_left fun q hq => by
      rw [e1, e2, he q.2 (by simp; exact ⟨q.1, by simpa using hq⟩)]
    simp only [opVal, hm]
  case slice t x lo hi mx =>
    have hb : ∀ (y : Option Operand) d, (∀ z, y = some z → evo s' z = evo s z) → boundOf { s' with H := Hr } d y = boundOf { s with H := Hr } d y := by
      intro y d hy
      cases y with
      | none => rfl
      | some z => simp only [boundOf, e1, e2, hy z rfl]
    have hlo : ∀ d, boundOf { s' with H := Hr } d lo = boundOf { s with H := Hr } d lo := fun d => hb lo d (fun z hz => he z (by subst hz; simp))
    have hhi : ∀ d, boundOf { s' with H := Hr } d hi = boundOf { s with H := Hr } d hi := fun d => hb hi d (fun z hz => he z (by subst hz; simp))
    have hx := he x (by simp)
    cases mx with
    | none => simp only [opVal, pvSlice, e1, e2, hx, hlo, hhi]
    | some m =>
      have hm := he m (by simp)
      simp only [opVal, pvSlice, e1, e2, hx, hlo, hhi, hm]
  case call c =>
    obtain ⟨callee, args, ts⟩ := c
    cases callee with
    | value g => exact absurd rfl (hno g args ts)
    | invoke r m => rfl
    | builtin b =>
      have hm : args.toList.map (evo { s' with H := Hr }) = args.toList.map (evo { s with H := Hr }) := List.map_congr_left fun x hx => by rw [e1, e2]; exact he x (by simp [Call.operands]; simpa using hx)
      cases b <;> try rfl
      case len =>
        simp only [opVal]
        cases h0 : args[0]? with
        | none => cases ts[0]? <;> rfl
        | some x =>
          have hx := he x (by simp [Call.operands]; exact Array.mem_of_getElem? h0)
          cases ts[0]? with
          | none => rfl
          | some t => simp only [e1, e2, hx]
      case max => simp only [opVal, hm]
      case min => simp only [opVal, hm]

theorem TopQ.qs {Hr : Hp} {s : St} {o : Oper} {K : St → Prop} (h : TopQ P o Hr s K) : QS P Hr s o K := by
  have h0 := h
  unfold TopQ at h
  split at h
  · rename_i g args ts ho
    split at h
    · rename_i f caps hg
      have hre : ∀ r, (∀ K' : PV → Prop, K' r → CallQ P f (args.toList.map (evo s) ++ caps) Hr K') → K (s.put o.dst r) → QS P Hr s o K := by
        intro r hc hK
        refine .val r (fun s' he K' hK' => ?_) hK
        unfold TopQ
        rw [ho] at he
        have hg' : evo s' g = .fn f caps := by rw [he g (by simp [Op.operands, Call.operands]), hg]
        have hm : args.toList.map (evo s') = args.toList.map (evo s) := List.map_congr_left fun x hx => he x (by simp [Op.operands, Call.operands]; exact .inr (by simpa using hx))
        simp only [ho, hg', hm]
        exact hc _ hK'
      rcases h with ⟨keep, n, as', r, hn, hs, hp, hK⟩ | ⟨keep, n, as', r, hn, hp, hK⟩
      · exact hre r (fun K' hk => .inl ⟨keep, n, as', r, hn, hs, hp, hk⟩) hK
      · exact hre r (fun K' hk => .inr ⟨keep, n, as', r, hn, hp, hk⟩) hK
    · exact h.elim
  · rename_i t ho
    obtain ⟨z, hz, hd, hK⟩ := h
    refine .new (fun l => .ref l z.cells.length 0 0) (.row true z.cells.length [z]) (by simp [makes, ho]) (fun s' he K' hK' => ?_) hK
    unfold TopQ
    simp only [ho]
    exact ⟨z, hz, hd, hK'⟩
  · rename_i t x ho
    obtain ⟨hd, hK⟩ := h
    refine .new (fun l => .ref l (evo s x).cells.length 0 0) (.row true (evo s x).cells.length [evo s x]) (by simp [makes, ho]) (fun s' he K' hK' => ?_) hK
    unfold TopQ
    rw [ho] at he
    have hx := he x (by simp [Op.operands])
    simp only [ho, hx]
    exact ⟨hd, hK'⟩
  · rename_i args ts ho
    obtain ⟨t0, t1, x, y, e, rfl, rfl, hu, hsrc, ys, hys, hcells, hz, h1, h2, k, xs, hx, hk, hxs, hroom, hK⟩ := h
    have re : ∀ s' : St, (∀ x ∈ o.op.operands, evo s' x = evo s x) → ∀ K' : St → Prop, (if ys = [] then K' (s'.put o.dst (.list k xs)) else
          ∀ l, s'.H l = none → K' ({ s' with H := upd s'.H l (some (.row true (P.cellsOf e) (xs ++ ys))) }.put o.dst (.arr l (P.cellsOf e) 0 (xs.length + ys.length)))) → TopQ P o Hr s' K' := by
      intro s' he K' hK'
      rw [ho] at he
      unfold TopQ
      simp only [ho]
      refine ⟨t0, t1, x, y, e, rfl, rfl, hu, hsrc, ys, by rw [he y (by simp [Op.operands, Call.operands])]; exact hys, hcells, hz, h1, h2, k, xs, by rw [he x (by simp [Op.operands, Call.operands])]; exact hx, hk, hxs, hroom, hK'⟩
    by_cases hy : ys = []
    · rw [if_pos hy] at hK
      exact .val (.list k xs) (fun s' he K' hK' => re s' he K' (by rw [if_pos hy]; exact hK')) hK
    · rw [if_neg hy] at hK
      exact .new (fun l => .arr l (P.cellsOf e) 0 (xs.length + ys.length)) (.row true (P.cellsOf e) (xs ++ ys)) (by simp [makes, ho]) (fun s' he K' hK' => re s' he K' (by rw [if_neg hy]; exact hK')) hK
  · rename_i h1 h2 h3 h4
    obtain ⟨hE, v, hv, hK⟩ := h
    refine .val v (fun s' he K' hK' => ?_) hK
    have hv' := opVal_congr hE h1 he hv
    unfold TopQ
    split
    · rename_i g args ts ho; exact absurd ho (h1 _ _ _)
    · rename_i t ho; exact absurd ho (h2 _)
    · rename_i t x ho; exact absurd ho (h3 _ _)
    · rename_i args ts ho; exact absurd ho (h4 _ _)
    · exact ⟨hE, v, hv', hK'⟩

/-! ### One step of a region that draws -/
def Step (P : Program) (ops : Array Oper) (Hr : Hp) (o : Oper) (s : St) (K : St → Prop) : Prop :=
  Tguard ops o s (TopQ P o Hr s K) (K (s.put o.dst (.tup [])))

theorem looks_of {ops : Array Oper} {o : Oper} {d : Tmp} (h : d ∉ o.looksAt ops) : (∀ x ∈ o.op.operands, x ≠ .tmp d) ∧ ∀ j want, o.guard = some (j, want) → (ops[j]?).bind (·.dst) ≠ some d := by
  unfold Oper.looksAt at h
  simp only [List.mem_append, not_or, List.mem_filterMap, not_exists, not_and] at h
  refine ⟨fun x hx e => ?_, fun j want hg e => ?_⟩
  · subst e
    exact h.1 (.tmp d) (by simpa using hx) rfl
  · have h2 := h.2
    rw [hg] at h2
    simp [e] at h2

theorem guard_put {ops : Array Oper} {o : Oper} {s : St} {d : Option Tmp} {v : PV} {Y N : Prop} (hd : ∀ t, d = some t → t ∉ o.looksAt ops) : Tguard ops o (s.put d v) Y N ↔ Tguard ops o s Y N := by
  unfold Tguard
  cases hg : o.guard with
  | none => exact Iff.rfl
  | some q =>
    obtain ⟨j, want⟩ := q
    simp only
    cases e : (ops[j]?).bind (·.dst) with
    | none => exact Iff.rfl
    | some t =>
      have : (s.put d v).env t = s.env t := by
        cases d with
        | none => rfl
        | some u =>
          have hne : t ≠ u := fun e' => (looks_of (hd u rfl)).2 j want hg (by rw [e, e'])
          simp [St.put, upd_apply, hne]
      simp only [this]
theorem guard_H {ops : Array Oper} {o : Oper} {s : St} {H : Hp} {Y N : Prop} : Tguard ops o { s with H := H } Y N ↔ Tguard ops o s Y N := Iff.rfl
theorem guard_mono {ops : Array Oper} {o : Oper} {s : St} {Y N Y' N' : Prop} (h : Tguard ops o s Y N) (hy : Y → Y') (hn : N → N') : Tguard ops o s Y' N' := by
  unfold Tguard at h ⊢
  split at h
  · exact hy h
  · split at h
    · split at h
      · split at h
        · rename_i hb; rw [if_pos hb]; exact hy h
        · rename_i hb; rw [if_neg hb]; exact hn h
      · exact hn h
      · exact h
    · exact h

/-- A step comes to one of three things. -/
theorem step_cases {ops : Array Oper} {Hr : Hp} {o : Oper} {s : St} {K : St → Prop} (h : Step P ops Hr o s K) :
    (∃ v, (∀ s' : St, (∀ x ∈ o.op.operands, evo s' x = evo s x) → (∀ Y N, Tguard ops o s' Y N ↔ Tguard ops o s Y N) → ∀ K' : St → Prop, K' (s'.put o.dst v) → Step P ops Hr o s' K') ∧ K (s.put o.dst v)) ∨
    (∃ (mk : Lab → PV) (c : Chunk), makes o = true ∧ (∀ s' : St, (∀ x ∈ o.op.operands, evo s' x = evo s x) → (∀ Y N, Tguard ops o s' Y N ↔ Tguard ops o s Y N) → ∀ K' : St → Prop, (∀ l, s'.H l = none → K' ({ s' with H := upd s'.H l (some c) }.put o.dst (mk l))) → Step P ops Hr o s' K') ∧
      ∀ l, s.H l = none → K ({ s with H := upd s.H l (some c) }.put o.dst (mk l))) := by
  unfold Step at h
  by_cases hY : ∀ Y N : Prop, Y → Tguard ops o s Y N
  · -- it runs, or nothing of the guard is known
    by_cases hN : ∀ Y N : Prop, N → Tguard ops o s Y N
    · exfalso
      have h1 := hY True False trivial
      have h2 := hN False True trivial
      revert h1 h2
      unfold Tguard
      split
      · exact fun _ h => h
      · split
        · split
          · split
            · exact fun _ h => h
            · exact fun h _ => h
          · exact fun h _ => h
          · exact fun h _ => h
        · exact fun h _ => h
    · have hq : TopQ P o Hr s K := by
        apply Classical.byContradiction
        intro hq
        apply hN
        intro Y N hn
        exact guard_mono h (fun e => absurd e hq) (fun _ => hn)
      rcases hq.qs with ⟨v, hv, hK⟩ | ⟨mk, c, hm, hv, hK⟩
      · exact .inl ⟨v, fun s' he hg K' hK' => (hg _ _).2 (hY _ _ (hv s' he K' hK')), hK⟩
      · exact .inr ⟨mk, c, hm, fun s' he hg K' hK' => (hg _ _).2 (hY _ _ (hv s' he K' hK')), hK⟩
  · have hn : K (s.put o.dst (.tup [])) := by
      apply Classical.byContradiction
      intro hn
      apply hY
      intro Y N hy
      exact guard_mono h (fun _ => hy) (fun e => absurd e hn)
    have hN : ∀ Y N : Prop, N → Tguard ops o s Y N := by
      revert h hY
      unfold Tguard
      split
      · intro h hY; exact absurd (fun Y N hy => hy) hY
      · split
        · split
          · split
            · intro h hY; exact absurd (fun Y N hy => hy) hY
            · exact fun _ _ Y N h => h
          · exact fun _ _ Y N h => h
          · exact fun h _ => h.elim
        · exact fun h _ => h.elim
    exact .inl ⟨.tup [], fun s' he hg K' hK' => (hg _ _).2 (hN _ _ hK'), hn⟩

theorem Step.mono {ops : Array Oper} {Hr : Hp} {o : Oper} {s : St} {K K' : St → Prop} (h : Step P ops Hr o s K) (hk : ∀ s, K s → K' s) : Step P ops Hr o s K' := by
  rcases step_cases h with ⟨v, hv, hK⟩ | ⟨mk, c, hm, hv, hK⟩
  · exact hv s (fun _ _ => rfl) (fun _ _ => Iff.rfl) K' (hk _ hK)
  · exact hv s (fun _ _ => rfl) (fun _ _ => Iff.rfl) K' (fun l hl => hk _ (hK l hl))

theorem apart_specs {ops : Array Oper} {x y : Oper} (h : x.apart ops y = true) : (∀ d, x.dst = some d → d ∉ y.looksAt ops) ∧ (∀ d, x.dst = some d → y.dst ≠ some d) ∧ (∀ d, y.dst = some d → d ∉ x.looksAt ops) := Oper.apart_spec h

theorem evo_H {s : St} {H : Hp} (x : Operand) : evo { s with H := H } x = evo s x := by cases x <;> rfl

/-- Without a call the outcome is one. -/
theorem TopQ.both {Hr : Hp} {s : St} {o : Oper} {K K' : St → Prop} (hc : userCall o = false) (h : TopQ P o Hr s K) (h' : TopQ P o Hr s K') : TopQ P o Hr s fun s => K s ∧ K' s := by
  unfold TopQ at h h' ⊢
  split at h
  · rename_i g args ts ho
    simp [userCall, ho] at hc
  · rename_i t ho
    simp only [ho] at h' ⊢
    obtain ⟨z, hz, hd, hK⟩ := h
    obtain ⟨z', hz', _, hK'⟩ := h'
    rw [hz] at hz'
    obtain rfl := Option.some.inj hz'
    exact ⟨z, hz, hd, fun l hl => ⟨hK l hl, hK' l hl⟩⟩
  · rename_i t x ho
    simp only [ho] at h' ⊢
    exact ⟨h.1, fun l hl => ⟨h.2 l hl, h'.2 l hl⟩⟩
  · rename_i args ts ho
    simp only [ho] at h' ⊢
    obtain ⟨t0, t1, x, y, e, rfl, rfl, hu, hsrc, ys, hys, hcells, hz, h1, h2, k, xs, hx, hk, hxs, hroom, hK⟩ := h
    obtain ⟨t0', t1', x', y', e', et, ea, hu', hsrc', ys', hys', _, _, _, _, k', xs', hx', _, _, _, hK'⟩ := h'
    obtain ⟨rfl, rfl⟩ : t0 = t0' ∧ t1 = t1' := by simpa using et
    obtain ⟨rfl, rfl⟩ : x = x' ∧ y = y' := by simpa using ea
    rw [hu] at hu'
    obtain rfl : e = e' := by simpa using hu'
    rw [hys] at hys'
    obtain rfl := Option.some.inj hys'
    rw [hx] at hx'
    obtain ⟨rfl, rfl⟩ : k = k' ∧ xs = xs' := by simpa using hx'
    refine ⟨t0, t1, x, y, e, rfl, rfl, hu, hsrc, ys, hys, hcells, hz, h1, h2, k, xs, hx, hk, hxs, hroom, ?_⟩
    split
    · rename_i hy; rw [if_pos hy] at hK hK'; exact ⟨hK, hK'⟩
    · rename_i hy; rw [if_neg hy] at hK hK'; exact fun l hl => ⟨hK l hl, hK' l hl⟩
  · rename_i h1 h2 h3 h4
    obtain ⟨hE, v, hv, hK⟩ := h
    split at h'
    · rename_i g args ts ho; exact absurd ho (h1 _ _ _)
    · rename_i t ho; exact absurd ho (h2 _)
    · rename_i t x ho; exact absurd ho (h3 _ _)
    · rename_i args ts ho; exact absurd ho (h4 _ _)
    · obtain ⟨_, v', hv', hK'⟩ := h'
      rw [hv] at hv'
      obtain rfl := Option.some.inj hv'
      exact ⟨hE, v, hv, hK, hK'⟩
theorem guard_both {ops : Array Oper} {o : Oper} {s : St} {Y N Y' N' : Prop} : Tguard ops o s Y N → Tguard ops o s Y' N' → Tguard ops o s (Y ∧ Y') (N ∧ N') := by
  unfold Tguard
  split
  · exact fun a b => ⟨a, b⟩
  · split
    · split
      · split
        · exact fun a b => ⟨a, b⟩
        · exact fun a b => ⟨a, b⟩
      · exact fun a b => ⟨a, b⟩
      · exact fun a _ => a
    · exact fun a _ => a
theorem Step.both {ops : Array Oper} {Hr : Hp} {s : St} {o : Oper} {K K' : St → Prop} (hc : userCall o = false) (h : Step P ops Hr o s K) (h' : Step P ops Hr o s K') : Step P ops Hr o s fun s => K s ∧ K' s := by
  exact guard_mono (guard_both h h') (fun e => e.1.both hc e.2) (fun e => e)

/-- Names are left. -/
def FreeInf (H : Hp) : Prop := ∃ N, ∀ b, N ≤ b → H (.real b) = none
theorem FreeInf.upd {H : Hp} (h : FreeInf H) (l : Lab) (c : Option Chunk) : FreeInf (upd H l c) := by
  obtain ⟨N, hN⟩ := h
  cases l with
  | virt j => exact ⟨N, fun b hb => by rw [upd_ne _ _ (by intro e; cases e)]; exact hN b hb⟩
  | real n => exact ⟨max N (n + 1), fun b hb => by rw [upd_ne _ _ (by intro e; cases e; omega)]; exact hN b (by omega)⟩

/-- Two steps that look at nothing of one another are exchanged. -/
theorem Step.swap {ops : Array Oper} {Hr : Hp} {x y : Oper} {s : St} {K : St → Prop} (hap : x.apart ops y = true) (hmk : makes x = false ∨ userCall y = false) (hfree : FreeInf s.H) (h : Step P ops Hr x s fun s' => Step P ops Hr y s' K) : Step P ops Hr y s fun s' => Step P ops Hr x s' K := by
  obtain ⟨h1, h2, h3⟩ := apart_specs hap
  have yx : ∀ (s : St) v z, z ∈ y.op.operands → evo (s.put x.dst v) z = evo s z := fun s v z hz => evo_put (fun t ht => (looks_of (h1 t ht)).1 z hz)
  have xy : ∀ (s : St) v z, z ∈ x.op.operands → evo (s.put y.dst v) z = evo s z := fun s v z hz => evo_put (fun t ht => (looks_of (h3 t ht)).1 z hz)
  have gy : ∀ (s : St) v Y N, Tguard ops y (s.put x.dst v) Y N ↔ Tguard ops y s Y N := fun s v Y N => guard_put (fun t ht => h1 t ht)
  have gx : ∀ (s : St) v Y N, Tguard ops x (s.put y.dst v) Y N ↔ Tguard ops x s Y N := fun s v Y N => guard_put (fun t ht => h3 t ht)
  have pc : ∀ (s : St) v u, (s.put x.dst v).put y.dst u = (s.put y.dst u).put x.dst v := fun s v u => put_comm (fun t ht => h2 t ht)
  rcases step_cases h with ⟨v, hv, hK⟩ | ⟨mk, c, hm, hv, hK⟩
  · rcases step_cases hK with ⟨u, hu, hK⟩ | ⟨mk', c', _, hu, hK⟩
    · refine hu s (fun z hz => (yx s v z hz).symm) (fun Y N => (gy s v Y N).symm) _ ?_
      refine hv _ (fun z hz => xy s u z hz) (fun Y N => gx s u Y N) _ ?_
      rw [← pc]
      exact hK
    · refine hu s (fun z hz => (yx s v z hz).symm) (fun Y N => (gy s v Y N).symm) _ (fun l hl => ?_)
      refine hv _ (fun z hz => by rw [xy _ _ z hz, evo_H]) (fun Y N => (gx _ _ Y N).trans guard_H) _ ?_
      have h0 := hK l (by rw [put_H']; exact hl)
      rw [put_H', ← put_H (s := s) (d := x.dst) (v := v) (upd s.H l (some c')), pc] at h0
      exact h0
  · obtain ⟨N, hN⟩ := hfree
    have hl0 : s.H (.real N) = none := hN N (Nat.le_refl _)
    have hyc : userCall y = false := by
      rcases hmk with h | h
      · rw [hm] at h; cases h
      · exact h
    -- the state behind the first step
    have st : ∀ l, ∀ z ∈ y.op.operands, evo ({ s with H := upd s.H l (some c) }.put x.dst (mk l)) z = evo s z := fun l z hz => by rw [yx _ _ z hz, evo_H]
    have sg : ∀ l Y N, Tguard ops y ({ s with H := upd s.H l (some c) }.put x.dst (mk l)) Y N ↔ Tguard ops y s Y N := fun l Y N => (gy _ _ Y N).trans guard_H
    rcases step_cases (hK _ hl0) with ⟨u, hu, _⟩ | ⟨mk', c', _, hu, _⟩
    · refine hu s (fun z hz => (st _ z hz).symm) (fun Y N => (sg _ Y N).symm) _ ?_
      refine hv _ (fun z hz => xy s u z hz) (fun Y N => gx s u Y N) _ (fun l hl => ?_)
      rw [put_H'] at hl
      have h1 := hK l hl
      have h2 := hu ({ s with H := upd s.H l (some c) }.put x.dst (mk l)) (fun z hz => by rw [st l z hz, st _ z hz]) (fun Y N => (sg l Y N).trans (sg _ Y N).symm)
        (fun s' => s' = ({ s with H := upd s.H l (some c) }.put x.dst (mk l)).put y.dst u) rfl
      have fin : K (({ s with H := upd s.H l (some c) }.put x.dst (mk l)).put y.dst u) := by
        rcases step_cases (h1.both hyc h2) with ⟨v', _, hk, he⟩ | ⟨mk'', c'', _, _, hk⟩
        · rw [← he]; exact hk
        · obtain ⟨Nf, hNf⟩ := (FreeInf.upd ⟨N, hN⟩ l (some c) : FreeInf (upd s.H l (some c)))
          obtain ⟨hk, he⟩ := hk (.real Nf) (by rw [put_H']; exact hNf Nf (Nat.le_refl _))
          rw [← he]; exact hk
      rw [put_H', ← put_H (s := s) (d := y.dst) (v := u) (upd s.H l (some c)), ← pc]
      exact fin
    · refine hu s (fun z hz => (st _ z hz).symm) (fun Y N => (sg _ Y N).symm) _ (fun l' hl' => ?_)
      refine hv _ (fun z hz => by rw [xy _ _ z hz, evo_H]) (fun Y N => (gx _ _ Y N).trans guard_H) _ (fun l hl => ?_)
      rw [put_H'] at hl
      have hl : upd s.H l' (some c') l = none := hl
      have hne : l ≠ l' := by intro e; subst e; rw [upd_same] at hl; cases hl
      have hls : s.H l = none := by rwa [upd_ne _ _ hne] at hl
      have h1 := hK l hls
      have h2 := hu ({ s with H := upd s.H l (some c) }.put x.dst (mk l)) (fun z hz => by rw [st l z hz, st _ z hz]) (fun Y N => (sg l Y N).trans (sg _ Y N).symm)
        (fun s' => ∃ k, upd s.H l (some c) k = none ∧ s' = { ({ s with H := upd s.H l (some c) }.put x.dst (mk l)) with H := upd (upd s.H l (some c)) k (some c') }.put y.dst (mk' k)) (fun k hk => ⟨k, by rw [put_H'] at hk; exact hk, by rw [put_H']⟩)
      have hl'2 : upd s.H l (some c) l' = none := by rw [upd_ne _ _ (Ne.symm hne)]; exact hl'
      have fin : K ({ ({ s with H := upd s.H l (some c) }.put x.dst (mk l)) with H := upd (upd s.H l (some c)) l' (some c') }.put y.dst (mk' l')) := by
        rcases step_cases (h1.both hyc h2) with ⟨v', _, _, k, hk0, he⟩ | ⟨mk'', c'', _, _, hk⟩
        · exfalso
          have := congrArg (fun s : St => s.H k) he
          simp only [put_H', upd_same] at this
          rw [hk0] at this
          cases this
        · obtain ⟨hk, k, hk0, he⟩ := hk l' (by rw [put_H']; exact hl'2)
          have hkl : k = l' := by
            have := congrArg (fun s : St => s.H l') he
            simp only [put_H', upd_same, upd_apply] at this
            split at this
            · rename_i e; exact e.symm
            · rename_i e
              split at this
              · rename_i e2; exact absurd e2 (Ne.symm hne)
              · rw [hl'] at this; cases this
          subst hkl
          rw [← he]; exact hk
      have e1 : ({ ({ s with H := upd s.H l (some c) }.put x.dst (mk l)) with H := upd (upd s.H l (some c)) l' (some c') }.put y.dst (mk' l') : St) =
          { ({ s with H := upd s.H l' (some c') }.put y.dst (mk' l')) with H := upd (({ s with H := upd s.H l' (some c') }.put y.dst (mk' l')).H) l (some c) }.put x.dst (mk l) := by
        rw [put_H', upd_comm hne]
        simp only [← put_H]
        rw [← pc]
      rw [← e1]
      exact fin

end
end Go.Proofs.Ytloecggdboingaa
namespace Go.Proofs.Ytloecggdboingaa
open Go.RowKit
set_option linter.unusedVariables false
set_option linter.unusedSimpArgs false

section
variable {P : Program} {X0 : Nat → Prop}

theorem opEff_mono {full : Bool} {s : St} {op : Op} {K K' : PV → Hp → Prop} (h : opEff P full s op K) (hk : ∀ v H, K v H → K' v H) : opEff P full s op K' := by
  unfold opEff at h ⊢
  split at h
  · obtain ⟨z, hz, hd, h⟩ := h; exact ⟨z, hz, hd, fun l hl => hk _ _ (h l hl)⟩
  · exact ⟨h.1, h.2.imp (hk _ _) fun h l hl => hk _ _ (h l hl)⟩
  · obtain ⟨h1, l, sz, i, off, xs, e, h2, h3, h4, h5, h6, h7, h8, h9, h10, h⟩ := h
    exact ⟨h1, l, sz, i, off, xs, e, h2, h3, h4, h5, h6, h7, h8, h9, h10, hk _ _ h⟩
  · obtain ⟨e, k, k', a, z, h1, h2, h3, h4, h5, h6, h7, h8, h9, h⟩ := h
    exact ⟨e, k, k', a, z, h1, h2, h3, h4, h5, h6, h7, h8, h9, fun l hl => hk _ _ (h l hl)⟩
  · obtain ⟨t0, t1, x, y, e, h1, h2, h3, h4, ys, h5, h6, h7, h8, h9, h⟩ := h
    refine ⟨t0, t1, x, y, e, h1, h2, h3, h4, ys, h5, h6, h7, h8, h9, ?_⟩
    split at h
    · rename_i k xs e
      obtain ⟨g1, g2, g3, h⟩ := h
      refine ⟨g1, g2, g3, ?_⟩
      split at h
      · rename_i hy; rw [if_pos hy]; exact hk _ _ h
      · rename_i hy; rw [if_neg hy]; exact fun l hl => hk _ _ (h l hl)
    · obtain ⟨g1, g2, g3, g4, xs, g5, g6, h⟩ := h
      exact ⟨g1, g2, g3, g4, xs, g5, g6, fun l hl => hk _ _ (h l hl)⟩
    · exact h
  · obtain ⟨h1, t0, t1, x, y, e, h2, h3, h4, h5, l, sz, lo, len, xs, ys, g1, g2, g3, g4, g5, g6, g7, h⟩ := h
    exact ⟨h1, t0, t1, x, y, e, h2, h3, h4, h5, l, sz, lo, len, xs, ys, g1, g2, g3, g4, g5, g6, g7, hk _ _ h⟩
  · exact h.elim

theorem CallsG.mono {f : FuncId} {as : List PV} {H : Hp} {K K' : PV → Hp → Prop} (h : CallsG P f as H K) (hk : ∀ v H, K v H → K' v H) : CallsG P f as H K' :=
  ⟨h.1, fun w X vs h1 h2 h3 => (h.2 w X vs h1 h2 h3).mono fun e w' ⟨v, r, H', he, g1, g2, g3, g4, g5⟩ => ⟨v, r, H', he, g1, g2, g3, g4, hk _ _ g5⟩⟩

theorem CallOK.mono {f : FuncId} {as : List PV} {H : Hp} {K K' : PV → Hp → Prop} (h : CallOK P f as H K) (hk : ∀ v H, K v H → K' v H) : CallOK P f as H K' := by
  rcases h with ⟨keep, n, as', r, h1, h2, h3, h4⟩ | ⟨keep, n, L, as', r, h1, h2, h3⟩ | h
  · exact .inl ⟨keep, n, as', r, h1, h2, h3, hk _ _ h4⟩
  · exact .inr (.inl ⟨keep, n, L, as', r, h1, h2, hk _ _ h3⟩)
  · exact .inr (.inr (h.mono hk))

theorem top_mono {o : Oper} {s : St} {K K' : St → Prop} (h : Top P o s K) (hk : ∀ s, K s → K' s) : Top P o s K' := by
  unfold Top at h ⊢
  split at h
  · rename_i g args ts ho
    split at h
    · exact h.mono fun r H h => hk _ h
    · exact h
  · split at h
    · rename_i hE
      rw [if_pos hE]
      exact opEff_mono h fun v H h => hk _ h
    · rename_i hE
      rw [if_neg hE]
      obtain ⟨v, hv, h⟩ := h
      exact ⟨v, hv, hk _ h⟩

theorem topQ_keeps {o : Oper} {Hr : Hp} {s : St} {K : St → Prop} (hsub : ∀ l c, Hr l = some c → s.H l = some c) (h : TopQ P o Hr s K) : Top P o s fun s' => (∀ l c, Hr l = some c → s'.H l = some c) ∧ K s' := by
  refine TopQ.top hsub ?_
  rcases h.qs with ⟨v, hv, hK⟩ | ⟨mk, c, hm, hv, hK⟩
  · exact hv s (fun _ _ => rfl) _ ⟨by rw [put_H']; exact hsub, hK⟩
  · refine hv s (fun _ _ => rfl) _ (fun l hl => ⟨fun l' c' h' => ?_, hK l hl⟩)
    rw [put_H']
    have h2 := hsub l' c' h'
    have : l' ≠ l := by intro e; subst e; rw [hl] at h2; cases h2
    show upd s.H l (some c) l' = some c'
    rw [upd_ne _ _ this]
    exact h2

theorem TopsD.cons_false {ops : Array Oper} {o : Oper} {rest : List (Oper × Bool)} {Hr : Hp} {s : St} {K : St → Prop} : TopsD P ops ((o, false) :: rest) Hr s K ↔ Step P ops Hr o s fun s' => TopsD P ops rest Hr s' K := Iff.rfl

theorem Step.free {ops : Array Oper} {Hr : Hp} {o : Oper} {s : St} {K : St → Prop} (hf : FreeInf s.H) (h : Step P ops Hr o s K) : Step P ops Hr o s fun s' => FreeInf s'.H ∧ K s' := by
  rcases step_cases h with ⟨v, hv, hK⟩ | ⟨mk, c, _, hv, hK⟩
  · exact hv s (fun _ _ => rfl) (fun _ _ => Iff.rfl) _ ⟨by rw [put_H']; exact hf, hK⟩
  · exact hv s (fun _ _ => rfl) (fun _ _ => Iff.rfl) _ (fun l hl => ⟨by rw [put_H']; exact hf.upd l _, hK l hl⟩)

/-- An operation that may be exchanged with all before it comes first. -/
theorem TopsD.front {ops : Array Oper} {y : Oper} {K : St → Prop} {B : List (Oper × Bool)} : ∀ (A : List (Oper × Bool)) (Hr : Hp) (s : St), FreeInf s.H →
    (∀ q ∈ A, q.2 = false ∧ q.1.apart ops y = true ∧ (makes q.1 = false ∨ userCall y = false)) → TopsD P ops (A ++ (y, false) :: B) Hr s K → TopsD P ops ((y, false) :: (A ++ B)) Hr s K
  | [], Hr, s, _, _, h => h
  | (x, fx) :: A, Hr, s, hf, hA, h => by
    obtain ⟨hx, hap, hmk⟩ := hA _ List.mem_cons_self
    have hx : fx = false := hx
    subst hx
    have hA' : ∀ q ∈ A, q.2 = false ∧ q.1.apart ops y = true ∧ (makes q.1 = false ∨ userCall y = false) := fun q hq => hA q (List.mem_cons_of_mem _ hq)
    have h : Step P ops Hr x s fun s' => TopsD P ops (A ++ (y, false) :: B) Hr s' K := h
    have h1 : Step P ops Hr x s fun s' => Step P ops Hr y s' fun s'' => TopsD P ops (A ++ B) Hr s'' K :=
      (h.free hf).mono fun s' hs => TopsD.front A Hr s' hs.1 hA' hs.2
    exact h1.swap hap hmk hf

/-- What an operation that makes or writes memory looks at. -/
theorem opEff_congr {full : Bool} {s s' : St} {op : Op} {K : PV → Hp → Prop} (he : ∀ x ∈ op.operands, evo s' x = evo s x) (hH : s'.H = s.H) (h : opEff P full s op K) : opEff P full s' op K := by
  unfold opEff at h ⊢
  split at h
  · rw [hH]; exact h
  · rw [hH, he _ (by simp [Op.operands])]; exact h
  · rename_i t a x
    rw [hH, he a (by simp [Op.operands]), he x (by simp [Op.operands])]; exact h
  · rename_i t n c
    rw [hH, he n (by simp [Op.operands]), he c (by simp [Op.operands])]; exact h
  · obtain ⟨t0, t1, x, y, e, h1, h2, h⟩ := h
    subst h1; subst h2
    refine ⟨t0, t1, x, y, e, rfl, rfl, ?_⟩
    rw [hH, he x (by simp [Op.operands, Call.operands]), he y (by simp [Op.operands, Call.operands])]; exact h
  · obtain ⟨hf, t0, t1, x, y, e, h1, h2, h⟩ := h
    subst h1; subst h2
    refine ⟨hf, t0, t1, x, y, e, rfl, rfl, ?_⟩
    rw [hH, he x (by simp [Op.operands, Call.operands]), he y (by simp [Op.operands, Call.operands])]; exact h
  · exact h.elim

theorem Top.put {y : Oper} {s : St} {d : Option Tmp} {v : PV} {K : St → Prop} (he : ∀ x ∈ y.op.operands, evo (s.put d v) x = evo s x) (hd : ∀ t, d = some t → y.dst ≠ some t) (h : Top P y (s.put d v) K) : Top P y s fun s' => (∃ H' r, s' = ({ s with H := H' } : St).put y.dst r) ∧ K (s'.put d v) := by
  have pc : ∀ (H' : Hp) (r : PV), ({ s.put d v with H := H' } : St).put y.dst r = (({ s with H := H' } : St).put y.dst r).put d v := fun H' r => by rw [← put_H, put_comm hd]
  have hs : ∀ x ∈ y.op.operands, evo s x = evo (s.put d v) x := fun x hx => (he x hx).symm
  unfold Top at h ⊢
  split at h
  · rename_i g args ts ho
    rw [ho] at hs
    have hm : args.toList.map (evo s) = args.toList.map (evo (s.put d v)) := List.map_congr_left fun x hx => hs x (by simp [Op.operands, Call.operands]; exact .inr (by simpa using hx))
    rw [hs g (by simp [Op.operands, Call.operands]), hm]
    split
    · rename_i f caps hg
      rw [hg] at h
      simp only [put_H'] at h
      exact CallOK.mono h fun r H' hk => ⟨⟨H', r, rfl⟩, by rw [← pc]; exact hk⟩
    · rename_i hn
      split at h
      · rename_i f caps hg; exact absurd hg (hn _ _)
      · exact h.elim
  · rename_i hno
    split
    · rename_i hE
      rw [if_pos hE] at h
      exact opEff_mono (opEff_congr hs put_H'.symm h) fun u H' hk => ⟨⟨H', u, rfl⟩, by rw [← pc]; exact hk⟩
    · rename_i hE
      rw [if_neg hE] at h
      obtain ⟨u, hu, hk⟩ := h
      have hu' := opVal_congr (s := s.put d v) (s' := s) (Hr := s.H) (by simpa using hE) (fun g args ts e => hno g args ts e) hs (by
        have : ({ s.put d v with H := s.H } : St) = s.put d v := by rw [← put_H]
        rw [this]; exact hu)
      refine ⟨u, hu', ⟨s.H, u, rfl⟩, ?_⟩
      have := pc s.H u
      have e1 : ({ s.put d v with H := s.H } : St) = s.put d v := by rw [← put_H]
      rw [e1] at this
      rw [← this]; exact hk

theorem opVal_silent {o : Oper} {s s' : St} (hs : silentB o = true) (he : s'.env = s.env) : opVal P s' o.op = opVal P s o.op := by
  obtain ⟨e, H⟩ := s
  obtain ⟨e', H'⟩ := s'
  have he : e' = e := he
  subst he
  have hev : evo (⟨e', H'⟩ : St) = evo ⟨e', H⟩ := funext fun x => by cases x <;> rfl
  have hbd : boundOf (⟨e', H'⟩ : St) = boundOf ⟨e', H⟩ := funext fun d => funext fun o => by
    cases o with
    | none => rfl
    | some x => simp only [boundOf, hev]
  unfold silentB at hs
  obtain ⟨dst, op, ty, pos, after, guard⟩ := o
  cases op <;> first | rfl | (simp [isEff] at hs; done) | (simp only [opVal, hev]; done) | (simp only [opVal, pvSlice, hev, hbd]; done) | skip
  case makeFunc fn fst caps => cases fn <;> simp only [opVal, hev]
  case call c =>
    obtain ⟨callee, args, ts⟩ := c
    cases callee with
    | builtin b => cases b <;> first | rfl | (simp only [opVal, hev]; done)
    | value g => rfl
    | _ => rfl

theorem Step.silent {ops : Array Oper} {Hr Hr' : Hp} {x : Oper} {s : St} {K : St → Prop} (hs : silentB x = true) (h : Step P ops Hr x s K) : Step P ops Hr' x s K := by
  refine guard_mono h (fun h => ?_) (fun h => h)
  unfold TopQ at h ⊢
  have hs' := hs
  unfold silentB at hs'
  split at h
  · rename_i g args ts ho; rw [ho] at hs'; cases hs'
  · rename_i t ho; rw [ho] at hs'; cases hs'
  · rename_i t y ho; rw [ho] at hs'; cases hs'
  · rename_i args ts ho; rw [ho] at hs'; cases hs'
  · obtain ⟨hE, v, hv, hk⟩ := h
    refine ⟨hE, v, ?_, hk⟩
    rw [← hv]
    exact opVal_silent hs rfl

theorem Step.frozen {ops : Array Oper} {Hr' : Hp} {x : Oper} {s : St} {K : St → Prop} (hl : isLd x = true) (h : Step P ops (fun _ => none) x s K) : Step P ops Hr' x s K := by
  refine guard_mono h (fun h => ?_) (fun h => h)
  obtain ⟨dst, op, ty, pos, af, g⟩ := x
  unfold isLd at hl
  simp only at hl
  split at hl
  · unfold TopQ at h ⊢
    obtain ⟨hE, v, hv, hk⟩ := h
    refine ⟨hE, v, ?_, hk⟩
    rename_i x0
    simp only [opVal] at hv ⊢
    have e : ∀ H, evo { s with H := H } x0 = evo s x0 := fun H => evo_H x0
    rw [e] at hv ⊢
    split at hv
    · simp [rowOf] at hv
    · exact hv
    · cases hv
  · cases hl

/-- An operation that writes memory comes before such as look at none, or at what nothing writes. -/
theorem TopsD.frontM {ops : Array Oper} {y : Oper} {K : St → Prop} {B : List (Oper × Bool)} : ∀ (A : List (Oper × Bool)) (Hr : Hp) (s : St),
    (∀ q ∈ A, q.2 = false ∧ q.1.apart ops y = true ∧ (silentB q.1 = true ∨ (isLd q.1 = true ∧ Hr = fun _ => none))) → TopsD P ops (A ++ (y, true) :: B) Hr s K →
    Tguard ops y s (Top P y s fun s' => TopsD P ops (A ++ B) s'.H s' K) (TopsD P ops (A ++ B) s.H (s.put y.dst (.tup [])) K)
  | [], Hr, s, _, h => h
  | (x, fx) :: A, Hr, s, hA, h => by
    obtain ⟨hx, hap, hsl⟩ := hA _ List.mem_cons_self
    have hx : fx = false := hx
    subst hx
    obtain ⟨h1, h2, h3⟩ := apart_specs hap
    have h : Step P ops Hr x s fun s' => TopsD P ops (A ++ (y, true) :: B) Hr s' K := h
    have xy : ∀ (s : St) v z, z ∈ x.op.operands → evo (s.put y.dst v) z = evo s z := fun s v z hz => evo_put (fun t ht => (looks_of (h3 t ht)).1 z hz)
    have hmk : makes x = false := by
      rcases hsl with hsl | ⟨hsl, _⟩
      · unfold silentB at hsl
        unfold makes
        split <;> rename_i e <;> simp_all [isEff]
      · unfold isLd at hsl
        split at hsl
        · rename_i e; unfold makes; rw [e]
        · cases hsl
    rcases step_cases h with ⟨v, hv, hK⟩ | ⟨mk, c, hm, _, _⟩
    · have hA' : ∀ q ∈ A, q.2 = false ∧ q.1.apart ops y = true ∧ (silentB q.1 = true ∨ (isLd q.1 = true ∧ Hr = fun _ => none)) := fun q hq => hA q (List.mem_cons_of_mem _ hq)
      have ih := TopsD.frontM A Hr (s.put x.dst v) hA' hK
      have hg := (guard_put (fun t ht => h1 t ht)).1 ih
      -- the step of x, after y
      have after : ∀ s' : St, (∀ z ∈ x.op.operands, evo s' z = evo s z) → (∀ Y N, Tguard ops x s' Y N ↔ Tguard ops x s Y N) → TopsD P ops (A ++ B) s'.H (s'.put x.dst v) K → TopsD P ops ((x, false) :: (A ++ B)) s'.H s' K := fun s' ho hgd hk =>
        hsl.elim (fun hsl => Step.silent hsl (hv s' ho hgd (fun s'' => TopsD P ops (A ++ B) s'.H s'' K) hk))
          (fun ⟨k1, k2⟩ => Step.frozen k1 (by subst k2; exact hv s' ho hgd (fun s'' => TopsD P ops (A ++ B) s'.H s'' K) hk))
      have gx : ∀ (s : St) v Y N, Tguard ops x (s.put y.dst v) Y N ↔ Tguard ops x s Y N := fun s v Y N => guard_put (fun t ht => h3 t ht)
      refine guard_mono hg (fun ht => ?_) (fun hn => ?_)
      · refine top_mono (Top.put (fun z hz => evo_put (fun t ht => (looks_of (h1 t ht)).1 z hz)) (fun t ht => h2 t ht) ht) ?_
        rintro s' ⟨⟨H', r, rfl⟩, hk⟩
        refine after _ (fun z hz => by rw [xy _ _ z hz, evo_H]) (fun Y N => (gx _ _ Y N).trans guard_H) ?_
        rw [put_H'] at hk
        exact hk
      · rw [put_H'] at hn
        have pc : (s.put x.dst v).put y.dst (.tup []) = (s.put y.dst (.tup [])).put x.dst v := put_comm (fun t ht => h2 t ht)
        rw [pc] at hn
        have := after (s.put y.dst (.tup [])) (fun z hz => xy s _ z hz) (fun Y N => gx s _ Y N) (by rw [put_H']; exact hn)
        rw [put_H'] at this
        exact this
    · rw [hmk] at hm; cases hm

theorem put_off {s : St} {H : Hp} {d : Option Tmp} {v : PV} {t : Nat} (h : d ≠ some t) : (({ s with H := H } : St).put d v).env t = s.env t := by
  cases d with
  | none => rfl
  | some d =>
    have : t ≠ d := fun e => h (by rw [e])
    simp [St.put, upd_apply, this]
theorem put_off' {s : St} {d : Option Tmp} {v : PV} {t : Nat} (h : d ≠ some t) : (s.put d v).env t = s.env t := put_off (s := s) (H := s.H) h

def Fra (d : Option Tmp) (s s' : St) : Prop := ∀ t, d ≠ some t → s'.env t = s.env t

theorem top_frame {o : Oper} {s : St} {K : St → Prop} (h : Top P o s K) : Top P o s (fun s' => K s' ∧ Fra o.dst s s') := by
  unfold Top at h ⊢
  split at h
  · split at h
    · exact h.mono fun r H h => ⟨h, fun t ht => put_off ht⟩
    · exact h
  · split at h
    · rename_i hE
      rw [if_pos hE]
      exact opEff_mono h fun v H h => ⟨h, fun t ht => put_off ht⟩
    · rename_i hE
      rw [if_neg hE]
      obtain ⟨v, hv, h⟩ := h
      exact ⟨v, hv, h, fun t ht => put_off' ht⟩

/-- The operations that are not yet listed. -/
def remOf (n : Nat) (listed : Array Bool) : List Nat := (List.range n).filter fun i => !listed.getD i true

theorem mem_rem {n : Nat} {listed : Array Bool} {i : Nat} : i ∈ remOf n listed ↔ i < n ∧ listed.getD i true = false := by
  simp [remOf]

theorem filter_split {n i : Nat} {p q : Nat → Bool} (hi : i < n) (hp : p i = true) (hq : ∀ j, q j = (p j && j != i)) :
    (List.range n).filter p = (List.range i).filter p ++ i :: (List.range' (i + 1) (n - (i + 1))).filter p ∧
    (List.range n).filter q = (List.range i).filter p ++ (List.range' (i + 1) (n - (i + 1))).filter p := by
  have hsplit : List.range n = List.range i ++ i :: List.range' (i + 1) (n - (i + 1)) := by
    rw [List.range_eq_range', List.range_eq_range']
    have : n = i + (1 + (n - (i + 1))) := by omega
    conv => lhs; rw [this]
    rw [← List.range'_append_1, Nat.zero_add, Nat.add_comm 1, List.range'_succ]
  have e1 : (List.range i).filter q = (List.range i).filter p := List.filter_congr fun j hj => by
    rw [hq]
    have : j ≠ i := by simp at hj; omega
    simp [this]
  have e2 : (List.range' (i + 1) (n - (i + 1))).filter q = (List.range' (i + 1) (n - (i + 1))).filter p := List.filter_congr fun j hj => by
    rw [hq]
    have : j ≠ i := by
      rw [List.mem_range'_1] at hj; omega
    simp [this]
  refine ⟨?_, ?_⟩
  · rw [hsplit, List.filter_append, List.filter_cons, if_pos hp]
  · rw [hsplit, List.filter_append, List.filter_cons, if_neg (by rw [hq]; simp), e1, e2]

/-- An operation with its mark. -/
def pairAt (ops : Array Oper) (fl : List Bool) (i : Nat) : Oper × Bool := (ops.getD i default, fl.getD i false)

theorem marked_eq (ops : Array Oper) (fl : List Bool) : marked ops.toList fl = (List.range ops.size).map (pairAt ops fl) := by
  have key : ∀ (l : List Oper) (fl : List Bool), marked l fl = (List.range l.length).map fun i => (l.getD i default, fl.getD i false) := by
    intro l
    induction l with
    | nil => intro fl; rfl
    | cons o l ih =>
      intro fl
      rw [marked, ih, List.length_cons, List.range_succ_eq_map, List.map_cons, List.map_map]
      congr 1
      · cases fl <;> rfl
      · apply List.map_congr_left
        intro i _
        cases fl <;> simp
  rw [key]
  simp only [Array.length_toList, pairAt]
  apply List.map_congr_left
  intro i hi
  unfold pairAt
  simp [Array.getD_eq_getD_getElem?]

theorem fold_bit {f : Edge → Bool} {g : Edge → Nat} (i : Nat) : ∀ (l : List Edge) (m : Nat), (l.foldl (fun m e => if f e = true then (m ||| 1 <<< e.on) ||| g e else m) m).testBit i = true →
    m.testBit i = true ∨ ∃ e ∈ l, f e = true ∧ (i = e.on ∨ (g e).testBit i = true)
  | [], m, h => .inl h
  | e :: l, m, h => by
    rw [List.foldl_cons] at h
    rcases fold_bit i l _ h with h | ⟨e', he, hf, hg⟩
    · by_cases hf : f e = true
      · rw [if_pos hf, Nat.testBit_or, Nat.testBit_or, Bool.or_eq_true, Bool.or_eq_true] at h
        rcases h with (h | h) | h
        · exact .inl h
        · refine .inr ⟨e, List.mem_cons_self, hf, .inl ?_⟩
          rw [Nat.one_shiftLeft, Nat.testBit_two_pow] at h
          simp only [decide_eq_true_eq] at h
          exact h.symm
        · exact .inr ⟨e, List.mem_cons_self, hf, .inr h⟩
      · rw [if_neg hf] at h; exact .inl h
    · exact .inr ⟨e', List.mem_cons_of_mem _ he, hf, hg⟩
theorem closure_spec (ops : Array Oper) (j i : Nat) (h : ((closure ops).getD j 0).testBit i = true) : Tr ops i j := by
  have key : ∀ (l : List Oper) (pre : List Oper) (acc : List Nat), ops.toList = pre ++ l → acc.length = pre.length → (∀ j i, (acc.getD j 0).testBit i = true → Tr ops i j) →
      ∀ j i, ((l.foldl closeStep acc).getD j 0).testBit i = true → Tr ops i j := by
    intro l
    induction l with
    | nil => intro pre acc _ _ hacc; exact hacc
    | cons o l ih =>
      intro pre acc hsp hlen hacc
      rw [List.foldl_cons]
      refine ih (pre ++ [o]) _ (by rw [hsp]; simp) (by unfold closeStep; simp [hlen]) ?_
      intro j i hb
      unfold closeStep at hb
      rw [List.getD_eq_getElem?_getD] at hb
      rcases Nat.lt_trichotomy j acc.length with hlt | heq | hgt
      · rw [List.getElem?_append_left hlt] at hb
        exact hacc j i (by rw [List.getD_eq_getElem?_getD]; exact hb)
      · rw [heq, List.getElem?_append_right (Nat.le_refl _), Nat.sub_self] at hb
        simp only [List.getElem?_cons_zero, Option.getD_some] at hb
        have hoj : ops[j]? = some o := by
          rw [← Array.getElem?_toList, hsp, heq, hlen, List.getElem?_append_right (Nat.le_refl _), Nat.sub_self]; rfl
        rcases fold_bit i _ _ hb with h0 | ⟨e, he, hf, hg⟩
        · rw [Nat.zero_testBit] at h0; cases h0
        · have hd : depOn ops e.on j = true := by
            unfold depOn
            rw [hoj]
            simp only [Option.map_some, Option.getD_some]
            rw [← Array.any_toList, List.any_eq_true]
            exact ⟨e, he, by simp [hf]⟩
          rcases hg with rfl | hg
          · exact .one hd
          · exact .more (hacc _ _ hg) hd
      · rw [List.getElem?_append_right (by omega), List.getElem?_eq_none (by simp; omega)] at hb
        simp at hb
  exact key ops.toList [] [] rfl rfl (fun j i h => by simp at h) j i h
/-- What an operation waits for is listed where the list is closed. -/
theorem Tr.listed {ops : Array Oper} {listed : Array Bool} (hcl : ∀ j o, ops[j]? = some o → listed.getD j false = true → ∀ e ∈ o.after.toList, Region.binds .any e = true → listed.getD e.on false = true) {i j : Nat} (h : Tr ops i j) :
    (∀ o, ops[j]? = some o → ∀ e ∈ o.after.toList, Region.binds .any e = true → listed.getD e.on false = true) → listed.getD i false = true := by
  have one : ∀ k j, depOn ops k j = true → (∀ o, ops[j]? = some o → ∀ e ∈ o.after.toList, Region.binds .any e = true → listed.getD e.on false = true) → listed.getD k false = true := by
    intro k j hd hj
    unfold depOn at hd
    cases ho : ops[j]? with
    | none => rw [ho] at hd; cases hd
    | some o =>
      rw [ho] at hd
      simp only [Option.map_some, Option.getD_some, ← Array.any_toList, List.any_eq_true, Bool.and_eq_true, beq_iff_eq] at hd
      obtain ⟨e, he, hb, rfl⟩ := hd
      exact hj o ho e he hb
  induction h with
  | one hd => exact one _ _ hd
  | more h hd ih => exact fun hj => ih (fun o ho => hcl _ o ho (one _ _ hd hj))

theorem drawOK_at {z : Bool} {ops : Array Oper} {fl : List Bool} (h : drawOK z ops fl = true) {j : Nat} {o : Oper} (ho : ops[j]? = some o) :
    (∀ e ∈ o.after.toList, Region.binds .any e = true → e.on < j) ∧
    ∀ i x, i < j → ops[i]? = some x → Tr ops i j ∨ (x.apart ops o = true ∧ fl.getD i false = false ∧ ((fl.getD j false = true ∧ (silentB x = true ∨ ((z = true ∧ isLd x = true) ∧ (fl.take j).all (fun f => !f) = true))) ∨ (fl.getD j false = false ∧ (makes x = false ∨ userCall o = false)))) := by
  have hj : j < ops.size := (Array.getElem?_eq_some_iff.1 ho).1
  unfold drawOK at h
  have h := List.all_eq_true.1 h j (by simpa using hj)
  simp only [ho, Option.map_some, Option.getD_some, Bool.and_eq_true] at h
  obtain ⟨h1, h2⟩ := h
  refine ⟨fun e he hb => ?_, fun i x hi hx => ?_⟩
  · rw [← Array.all_toList] at h1
    have := List.all_eq_true.1 h1 e he
    simp only [hb, Bool.not_true, Bool.false_or, decide_eq_true_eq] at this
    exact this
  · have := List.all_eq_true.1 h2 i (by simpa using hi)
    simp only [hx, Bool.or_eq_true, Bool.and_eq_true, Bool.not_eq_true'] at this
    rcases this with h | ⟨⟨h1, h2⟩, h4⟩
    · exact .inl (closure_spec ops j i h)
    · refine .inr ⟨h1, h2, ?_⟩
      cases h3 : fl.getD j false with
      | true =>
        rw [h3] at h4
        simp only [if_true, Bool.or_eq_true, Bool.and_eq_true] at h4
        exact .inl ⟨rfl, h4⟩
      | false =>
      rw [h3] at h4
      simp only [Bool.false_eq_true, if_false] at h4
      refine .inr ⟨rfl, ?_⟩
      cases e : makes x with
      | false => exact .inl rfl
      | true =>
        rw [e] at h4
        cases e' : userCall o with
        | false => exact .inr rfl
        | true => rw [e'] at h4; simp at h4

theorem ready_rem {ops : Array Oper} {listed : Array Bool} (hl : listed.size = ops.size) {i : Nat} (h : i ∈ Region.ready .any ops listed) :
    i ∈ remOf ops.size listed ∧ ∃ o, ops[i]? = some o ∧ ∀ e ∈ o.after.toList, Region.binds .any e = true → listed.getD e.on false = true := by
  unfold Region.ready at h
  simp only [List.mem_filter, List.mem_range, Bool.and_eq_true, Bool.not_eq_true'] at h
  obtain ⟨hi, h1, h2⟩ := h
  refine ⟨mem_rem.2 ⟨hi, h1⟩, ops[i], Array.getElem?_eq_getElem hi, fun e he hb => ?_⟩
  rw [Array.getElem?_eq_getElem hi] at h2
  simp only [Option.map_some, Option.getD_some] at h2
  rw [← Array.all_toList] at h2
  have := List.all_eq_true.1 h2 e he
  simpa [hb] using this

theorem topsD_any {n : Nat} {z : Bool} {w0 : World} {O0 : Nat → Prop} {ops : Array Oper} {fl : List Bool} {Q : Exit → Act → World → Prop} {K : St → Prop} (hok : drawOK z ops fl = true)
    (hd : ∀ o ∈ ops.toList, ∀ t, o.dst = some t → t < n) (hN : ∀ s a w, SR P n w0 O0 X0 s a w → K s → Q .normal a w) :
    ∀ (fuel : Nat) (listed : Array Bool) (Hr : Hp) (s : St) (a : Act) (w : World), listed.size = ops.size → (remOf ops.size listed).length = fuel → SR P n w0 O0 X0 s a w →
      (∀ l c, Hr l = some c → s.H l = some c) → (z = true → (∀ m, fl.getD m false = true → listed.getD m false = false) → Hr = fun _ => none) → (∀ j o, ops[j]? = some o → listed.getD j false = true → ∀ e ∈ o.after.toList, Region.binds .any e = true → listed.getD e.on false = true) → TopsD P ops ((remOf ops.size listed).map (pairAt ops fl)) Hr s K → wpAny P .any ops Q fuel listed a w := by
  intro fuel
  induction fuel with
  | zero =>
    intro listed Hr s a w hl hlen hs hsub hfz hcl hk
    have hnil : remOf ops.size listed = [] := List.eq_nil_of_length_eq_zero hlen
    rw [hnil] at hk
    refine ⟨List.eq_nil_iff_forall_not_mem.2 fun i hi => ?_, hN s a w hs hk⟩
    have := (ready_rem hl hi).1
    rw [hnil] at this
    cases this
  | succ fuel ih =>
    intro listed Hr s a w hl hlen hs hsub hfz hcl hk
    have step : ∀ i ∈ Region.ready .any ops listed, wpOp P ops Q i (wpAny P .any ops Q fuel (listed.setIfInBounds i true)) a w := by
      intro i hi
      obtain ⟨hrem, o, ho, hdep⟩ := ready_rem hl hi
      obtain ⟨hin, hun⟩ := mem_rem.1 hrem
      obtain ⟨_, hpairs⟩ := drawOK_at hok ho
      have hfs := filter_split (n := ops.size) (i := i) (p := fun j => !listed.getD j true) (q := fun j => !(listed.setIfInBounds i true).getD j true) hin (by simp [hun]) (fun j => by
        simp only [Array.getD_eq_getD_getElem?, Array.getElem?_setIfInBounds]
        by_cases e : i = j
        · subst e
          simp [show i < listed.size by omega]
        · have e' : j ≠ i := Ne.symm e
          simp [e, e'])
      have hrest : remOf ops.size (listed.setIfInBounds i true) = (List.range i).filter (fun j => !listed.getD j true) ++ (List.range' (i + 1) (ops.size - (i + 1))).filter (fun j => !listed.getD j true) := hfs.2
      have hall : remOf ops.size listed = (List.range i).filter (fun j => !listed.getD j true) ++ i :: (List.range' (i + 1) (ops.size - (i + 1))).filter (fun j => !listed.getD j true) := hfs.1
      rw [hall, List.map_append, List.map_cons] at hk
      have hlen' : (remOf ops.size (listed.setIfInBounds i true)).length = fuel := by
        rw [hrest, List.length_append]
        rw [hall, List.length_append, List.length_cons] at hlen
        omega
      have hpi : pairAt ops fl i = (o, fl.getD i false) := by
        unfold pairAt
        rw [Array.getD_eq_getD_getElem?, ho]
        rfl
      have hnd : ∀ j ∈ (List.range i).filter (fun j => !listed.getD j true), ¬ Tr ops j i := by
        intro j hj htr
        simp only [List.mem_filter, List.mem_range, Bool.not_eq_true'] at hj
        have h1 := htr.listed hcl (fun o' ho' e he hb => hdep e (by rw [ho] at ho'; cases ho'; exact he) hb)
        have h2 := hj.2
        rw [Array.getD_eq_getD_getElem?] at h1 h2
        cases hx : listed[j]? with
        | none => rw [hx] at h1; cases h1
        | some b => rw [hx] at h1 h2; simp at h1 h2; rw [h1] at h2; cases h2
      have hcl' : ∀ j o, ops[j]? = some o → (listed.setIfInBounds i true).getD j false = true → ∀ e ∈ o.after.toList, Region.binds .any e = true → (listed.setIfInBounds i true).getD e.on false = true := by
        intro j o' ho' hj e he hb
        have up : ∀ k, listed.getD k false = true → (listed.setIfInBounds i true).getD k false = true := by
          intro k hk
          simp only [Array.getD_eq_getD_getElem?, Array.getElem?_setIfInBounds] at hk ⊢
          split
          · rename_i e; subst e
            split
            · rfl
            · rename_i hn; rw [Array.getElem?_eq_none (by omega)] at hk; exact hk
          · exact hk
        by_cases e' : j = i
        · subst e'
          rw [ho] at ho'; cases ho'
          exact up _ (hdep e he hb)
        · refine up _ (hcl j o' ho' ?_ e he hb)
          simp only [Array.getD_eq_getD_getElem?, Array.getElem?_setIfInBounds] at hj ⊢
          rw [if_neg (fun h => e' h.symm)] at hj
          exact hj
      have hfree : FreeInf s.H := ⟨w.heap.size, fun b hb => by
        cases e : s.H (.real b) with
        | none => rfl
        | some c =>
          obtain ⟨m, sz, xs⟩ := c
          obtain ⟨_, _, cs, t, hbk, _⟩ := hs.heap _ _ _ _ e
          have := lt_of_block hbk
          omega⟩
      have hdo : ∀ t, o.dst = some t → t < n := hd o (by rw [← Array.getElem?_toList] at ho; exact mem_of_get ho)
      have hls : (listed.setIfInBounds i true).size = ops.size := by simp [hl]
      have hli : (listed.setIfInBounds i true).getD i false = true := by
        simp only [Array.getD_eq_getD_getElem?, Array.getElem?_setIfInBounds]
        simp only [if_true]
        rw [if_pos (by omega)]; rfl
      -- before the first marked operation
      have hfz' : ∀ Hr' : Hp, (fl.getD i false = false → Hr' = Hr) → ∀ Hx, z = true → (∀ m, fl.getD m false = true → (listed.setIfInBounds i true).getD m false = false) → (if fl.getD i false = true then Hx else Hr') = fun _ => none := by
        intro Hr' he Hx hz hm
        cases hfi : fl.getD i false with
        | true => have := hm i hfi; rw [hli] at this; cases this
        | false =>
          rw [if_neg (by decide), he hfi]
          refine hfz hz fun m hmm => ?_
          have := hm m hmm
          simp only [Array.getD_eq_getD_getElem?, Array.getElem?_setIfInBounds] at this ⊢
          split at this
          · rename_i e; subst e; rw [hfi] at hmm; cases hmm
          · exact this
      -- what follows
      have fin : ∀ (Hr' : Hp), (fl.getD i false = false → Hr' = Hr) → Tguard ops o s (Top P o s fun s' => (∀ l c, (if fl.getD i false then s'.H else Hr') l = some c → s'.H l = some c) ∧ TopsD P ops ((remOf ops.size (listed.setIfInBounds i true)).map (pairAt ops fl)) (if fl.getD i false then s'.H else Hr') s' K)
          ((∀ l c, (if fl.getD i false then s.H else Hr') l = some c → s.H l = some c) ∧ TopsD P ops ((remOf ops.size (listed.setIfInBounds i true)).map (pairAt ops fl)) (if fl.getD i false then s.H else Hr') (s.put o.dst (.tup [])) K) →
          wpOp P ops Q i (wpAny P .any ops Q fuel (listed.setIfInBounds i true)) a w := by
        intro Hr' hr0 hg
        unfold wpOp
        rw [ho]
        simp only
        rcases guard_wp hs hg with ⟨hw, hY⟩ | ⟨hw, hN'⟩
        · rw [if_pos hw]
          exact .inl (top_wp hs hdo hY (fun s' a' w' hs' hk' => ih _ _ s' a' w' hls hlen' hs' hk'.1 (hfz' Hr' hr0 _) hcl' hk'.2))
        · rw [if_neg (by rw [hw]; simp)]
          exact ih _ _ _ _ w hls hlen' (skip_SR hs hdo) (by rw [put_H']; exact hN'.1) (hfz' Hr' hr0 _) hcl' hN'.2
      cases hfi : fl.getD i false with
      | true =>
        -- what is left before it looks at no memory
        rw [hpi, hfi] at hk
        have hfront := TopsD.frontM (P := P) ((List.filter (fun j => !listed.getD j true) (List.range i)).map (pairAt ops fl)) Hr s (fun q hq => by
          obtain ⟨j, hj, rfl⟩ := List.mem_map.1 hq
          have hji : j < i := by simp at hj; exact hj.1
          have hoj : ops[j]? = some (ops[j]'(by omega)) := Array.getElem?_eq_getElem (by omega)
          have hpj : pairAt ops fl j = (ops[j]'(by omega), fl.getD j false) := by
            unfold pairAt
            rw [Array.getD_eq_getD_getElem?, hoj]
            rfl
          rw [hpj]
          rcases hpairs j _ hji hoj with h | ⟨h1, h2, ⟨_, h3⟩ | ⟨h3, _⟩⟩
          · exact absurd h (hnd j hj)
          · refine ⟨h2, h1, h3.imp id fun ⟨⟨hz, hf⟩, hfst⟩ => ⟨hf, hfz hz fun m hm => ?_⟩⟩
            rcases Nat.lt_trichotomy m i with hlt | heq | hgt
            · exfalso
              have h4 : ∀ f ∈ fl.take i, f = false := by
                intro f hf'
                have := List.all_eq_true.1 hfst f hf'
                simpa using this
              rw [List.getD_eq_getElem?_getD] at hm
              cases hx : fl[m]? with
              | none => rw [hx] at hm; cases hm
              | some f =>
                rw [hx] at hm
                have : f ∈ fl.take i := List.mem_of_getElem? (by rw [List.getElem?_take_of_lt hlt]; exact hx)
                rw [h4 f this] at hm; cases hm
            · subst heq
              have := hun
              rw [Array.getD_eq_getD_getElem?] at this ⊢
              cases hx : listed[m]? with
              | none => rfl
              | some b => rw [hx] at this; simpa using this
            · cases hlm : listed.getD m false with
              | false => rfl
              | true =>
                exfalso
                have hms : m < ops.size := by
                  rw [Array.getD_eq_getD_getElem?] at hlm
                  cases hx : listed[m]? with
                  | none => rw [hx] at hlm; cases hlm
                  | some b => have := (Array.getElem?_eq_some_iff.1 hx).1; omega
                have hom : ops[m]? = some (ops[m]'hms) := Array.getElem?_eq_getElem hms
                rcases (drawOK_at hok hom).2 i o hgt ho with htr | ⟨_, hfi', _⟩
                · have := htr.listed hcl (fun o' ho' e he hb => hcl m o' ho' hlm e he hb)
                  have hun' := hun
                  rw [Array.getD_eq_getD_getElem?] at this hun'
                  cases hx : listed[i]? with
                  | none => rw [hx] at this; cases this
                  | some b => rw [hx] at this hun'; simp at this hun'; rw [this] at hun'; cases hun'
                · rw [hfi] at hfi'; cases hfi'
          · rw [hfi] at h3; cases h3) hk
        refine fin Hr (fun _ => rfl) ?_
        simp only [hfi, if_true]
        rw [hrest, List.map_append]
        exact guard_mono hfront (fun h => top_mono h (fun s' h => ⟨fun _ _ h => h, h⟩)) (fun h => ⟨fun _ _ h => h, h⟩)
      | false =>
        rw [hpi, hfi] at hk
        have hfront := TopsD.front (P := P) ((List.filter (fun j => !listed.getD j true) (List.range i)).map (pairAt ops fl)) Hr s hfree (fun q hq => by
          obtain ⟨j, hj, rfl⟩ := List.mem_map.1 hq
          have hji : j < i := by simp at hj; exact hj.1
          have hoj : ops[j]? = some (ops[j]'(by omega)) := Array.getElem?_eq_getElem (by omega)
          have hpj : pairAt ops fl j = (ops[j]'(by omega), fl.getD j false) := by
            unfold pairAt
            rw [Array.getD_eq_getD_getElem?, hoj]
            rfl
          rw [hpj]
          rcases hpairs j _ hji hoj with h | ⟨h1, h2, ⟨h3, _⟩ | ⟨_, h4⟩⟩
          · exact absurd h (hnd j hj)
          · rw [hfi] at h3; cases h3
          · exact ⟨h2, h1, h4⟩) hk
        refine fin Hr (fun _ => rfl) ?_
        simp only [hfi, Bool.false_eq_true, if_false]
        rw [hrest, List.map_append]
        have hg : Tguard ops o s (TopQ P o Hr s fun s' => TopsD P ops (List.map (pairAt ops fl) (List.filter (fun j => !listed.getD j true) (List.range i)) ++ List.map (pairAt ops fl) (List.filter (fun j => !listed.getD j true) (List.range' (i + 1) (ops.size - (i + 1))))) Hr s' K)
          (TopsD P ops (List.map (pairAt ops fl) (List.filter (fun j => !listed.getD j true) (List.range i)) ++ List.map (pairAt ops fl) (List.filter (fun j => !listed.getD j true) (List.range' (i + 1) (ops.size - (i + 1))))) Hr (s.put o.dst (.tup [])) K) := hfront
        exact guard_mono hg (fun h => topQ_keeps hsub h) (fun h => ⟨hsub, h⟩)
    refine ⟨fun hr => ?_, step⟩
    -- something is ready
    exfalso
    obtain ⟨i, hi, hmin⟩ : ∃ i, i ∈ remOf ops.size listed ∧ ∀ j ∈ remOf ops.size listed, i ≤ j := by
      have hne : remOf ops.size listed ≠ [] := by intro e; rw [e] at hlen; cases hlen
      exact ⟨(remOf ops.size listed).min hne, List.min_mem hne, fun j hj => List.min_le_of_mem hj⟩
    obtain ⟨hin, hun⟩ := mem_rem.1 hi
    have ho : ops[i]? = some ops[i] := Array.getElem?_eq_getElem hin
    obtain ⟨hdeps, _⟩ := drawOK_at hok ho
    have : i ∈ Region.ready .any ops listed := by
      unfold Region.ready
      simp only [List.mem_filter, List.mem_range, Bool.and_eq_true, Bool.not_eq_true']
      refine ⟨hin, hun, ?_⟩
      rw [ho]
      simp only [Option.map_some, Option.getD_some, ← Array.all_toList, List.all_eq_true]
      intro e he
      cases hb : Region.binds .any e with
      | false => rfl
      | true =>
        have hlt := hdeps e he hb
        have : listed.getD e.on true = true := by
          apply Classical.byContradiction
          intro hc
          have := hmin e.on (mem_rem.2 ⟨by omega, by simpa using hc⟩)
          omega
        rw [Array.getD_eq_getD_getElem?] at this ⊢
        have hlx : e.on < listed.size := by omega
        rw [Array.getElem?_eq_getElem hlx] at this ⊢
        simpa using this
    rw [hr] at this
    cases this

end
end Go.Proofs.Ytloecggdboingaa
namespace Go.Proofs.Ytloecggdboingaa
open Go.RowKit
set_option linter.unusedVariables false
set_option linter.unusedSimpArgs false

/-- Are all slots that the code writes slots of the frame? -/
def dstOK (n : Nat) : Code → Bool
  | .region _ ops _ => ops.toList.all fun o => match o.dst with
    | some d => decide (d < n)
    | none => true
  | .seq a b => dstOK n a && dstOK n b
  | .cond _ a b => dstOK n a && dstOK n b
  | .block _ c => dstOK n c
  | .loop c => dstOK n c
  | _ => true

def X.toExit : X → Exit
  | .normal => .normal
  | .exit id => .exit id
  | .ret => .ret

section
variable {P : Program} {X0 : Nat → Prop}

/-- What T's condition says of the machine. -/
def Post (P : Program) (n : Nat) (w0 : World) (O0 X0 : Nat → Prop) (Q : X → St → Prop) (e : Exit) (a : Act) (w : World) : Prop :=
  ∃ x s, e = x.toExit ∧ SR P n w0 O0 X0 s a w ∧ Q x s

theorem dst_of {n : Nat} {ops : Array Oper} (h : (ops.toList.all fun o => match o.dst with | some d => decide (d < n) | none => true) = true) : ∀ o ∈ ops.toList, ∀ t, o.dst = some t → t < n := by
  intro o ho t ht
  have := List.all_eq_true.1 h o ho
  rw [ht] at this
  simpa using this

theorem T_wp {n : Nat} {w0 : World} {O0 : Nat → Prop} (hm : P.follows .mixedOrders = true) : ∀ (c : Code) (s : St) (a : Act) (w : World) (Q : X → St → Prop), dstOK n c = true → SR P n w0 O0 X0 s a w → T P c s Q →
    c.wp P (Post P n w0 O0 X0 Q) a w := by
  intro c
  induction c with
  | skip => intro s a w Q _ h hT; exact wp_skip ⟨.normal, s, rfl, h, hT⟩
  | region id ops draw =>
    intro s a w Q hd h hT
    have hdst := dst_of (by simpa only [dstOK] using hd)
    cases draw with
    | false =>
      have hT : Tops P ops ops.toList s (Q .normal) := hT
      exact wp_region_list (tops_wp (fun s a w hs hk => ⟨.normal, s, rfl, hs, hk⟩) ops.toList s a w hdst h hT)
    | true =>
      obtain ⟨z, fl, hok, hT⟩ : ∃ z fl, drawOK z ops fl = true ∧ TopsD P ops (marked ops.toList fl) (bif z then (fun _ => none) else s.H) s (Q .normal) := hT
      have hrem : remOf ops.size (Array.replicate ops.size false) = List.range ops.size := by
        unfold remOf
        rw [List.filter_eq_self]
        intro i hi
        simp only [List.mem_range] at hi
        simp [Array.getD_eq_getD_getElem?, Array.getElem?_replicate, hi]
      refine wp_region_any hm ?_
      refine topsD_any (K := Q .normal) hok hdst (fun s a w hs hk => ⟨.normal, s, rfl, hs, hk⟩) ops.size _ (bif z then (fun _ => none) else s.H) s a _ (by simp) (by rw [hrem]; simp) (h.keep (Fr.drew w _)) (fun l c h => by cases z with | true => cases h | false => exact h) (fun hz _ => by rw [hz]; rfl) (fun j o ho hj => by
        simp only [Array.getD_eq_getD_getElem?, Array.getElem?_replicate] at hj
        split at hj <;> simp at hj) ?_
      rw [hrem, ← marked_eq]
      exact hT
  | seq x y ihx ihy =>
    intro s a w Q hd h hT
    simp only [dstOK, Bool.and_eq_true] at hd
    refine wp_seq (wp_mono (ihx s a w _ hd.1 h hT) ?_)
    rintro e a' w' ⟨x', s', rfl, hs, hq⟩
    cases x' with
    | normal => exact ihy s' a' w' Q hd.2 hs hq
    | exit id => exact ⟨.exit id, s', rfl, hs, hq⟩
    | ret => exact ⟨.ret, s', rfl, hs, hq⟩
  | cond c x y ihx ihy =>
    intro s a w Q hd h hT
    simp only [dstOK, Bool.and_eq_true] at hd
    obtain ⟨t, ht, hT⟩ := hT
    have hv := h.ev c
    rw [ht] at hv
    refine wp_cond hv.bool_inv ?_
    cases t with
    | true => exact ihx s a w Q hd.1 h hT
    | false => exact ihy s a w Q hd.2 h hT
  | block id c ih =>
    intro s a w Q hd h hT
    refine wp_block (wp_mono (ih s a w _ hd h hT) ?_)
    rintro e a' w' ⟨x', s', rfl, hs, hq⟩
    cases x' with
    | normal => exact ⟨.normal, s', rfl, hs, hq⟩
    | exit id' =>
      simp only [X.toExit, Exit.inBlock]
      by_cases hid : id' = id
      · rw [if_pos hid]
        simp only [hid, if_true] at hq
        exact ⟨.normal, s', rfl, hs, hq⟩
      · rw [if_neg hid]
        simp only [hid, if_false] at hq
        exact ⟨.exit id', s', rfl, hs, hq⟩
    | ret => exact ⟨.ret, s', rfl, hs, hq⟩
  | loop c ih =>
    intro s a w Q hd h hT
    obtain ⟨k, hT⟩ := hT
    refine wp_loop_rounds k ?_
    have key : ∀ (k : Nat) (s : St) (a : Act) (w : World), SR P n w0 O0 X0 s a w → iter (T P c) k s Q → Code.rounds P c (Post P n w0 O0 X0 Q) k a w := by
      intro k
      induction k with
      | zero => intro s a w _ h; exact h.elim
      | succ k ihk =>
        intro s a w hs hk
        rw [rounds_succ]
        refine wp_mono (ih s a w _ hd hs hk) ?_
        rintro e a' w' ⟨x', s', rfl, hs', hq⟩
        cases x' with
        | normal => exact ihk s' a' w' hs' hq
        | exit id => exact ⟨.exit id, s', rfl, hs', hq⟩
        | ret => exact ⟨.ret, s', rfl, hs', hq⟩
    exact key k s a w h hT
  | exit id => intro s a w Q _ h hT; exact wp_exit ⟨.exit id, s, rfl, h, hT⟩
  | ret => intro s a w Q _ h hT; exact wp_ret ⟨.ret, s, rfl, h, hT⟩
  | rangeFunc f ps as b => intro s a w Q _ h hT; exact hT.elim
  | scope b => intro s a w Q _ h hT; exact hT.elim
  | label l => intro s a w Q _ h hT; exact hT.elim
  | goto l => intro s a w Q _ h hT; exact hT.elim
  | refuse why => intro s a w Q _ h hT; exact hT.elim

/-! ### Contracts -/
def resOne (P : Program) (s : St) : ResultVar → Option PV
  | .tmp t => some (s.env t)
  | .cell a t => match s.env a with
    | .ref l sz i off => (rowOf s.H l sz).bind fun xs => (xs[i]?).bind fun x => loadCs P t x.cells off
    | .cptr cs => loadCs P t cs 0
    | _ => none
def one : List PV → PV
  | [v] => v
  | vs => .tup vs
def resVal (P : Program) (rs : Array ResultVar) (s : St) : Option PV := (rs.toList.mapM (resOne P s)).map one

def argEnv (as : List PV) : Nat → PV := fun i => as.getD i (.tup [])

/-- What is closed about a function. -/
structure FnOK (P : Program) (f : FuncId) (fn : Func) (c : Code) : Prop where
  mixed : P.follows .mixedOrders = true
  func : P.funcs[f]? = some fn
  body : fn.body = some c
  name : (fn.name != "runtime.NumGoroutine") = true
  dst : dstOK fn.ntmps c = true

theorem FnOK.callable {f : FuncId} {fn : Func} {c : Code} (h : FnOK P f fn c) : callable P f = true := by
  unfold Go.Proofs.Ytloecggdboingaa.callable
  rw [h.func]
  simp only [h.name, h.body, Option.isSome_some, Bool.and_self]

def resSem (tmps : Array Value) : ResultVar → Sem Value
  | .tmp t => pure (tmps.getD t undef)
  | .cell b t => do loadVar t (← asAddr (tmps.getD b undef))
theorem results_eq (fn : Func) (tmps : Array Value) : results fn tmps = (fn.results.mapM (resSem tmps) >>= fun vs => pure (if h : vs.size = 1 then vs[0] else .tuple vs)) := by
  unfold results
  refine congrArg (fun m => m >>= _) ?_
  refine congrArg (fun F => Array.mapM F fn.results) ?_
  funext r
  cases r <;> rfl

theorem results_run {n : Nat} {w0 w : World} {O0 : Nat → Prop} {s : St} {a : Act} {fn : Func} {v : PV} (h : SR P n w0 O0 X0 s a w) (hv : resVal P fn.results s = some v) :
    ∃ u, (results fn a.tmps).run P w = .ok u w ∧ VR w (both X0 s.H) u v := by
  obtain ⟨vs, hvs, rfl⟩ := Option.map_eq_some_iff.1 hv
  have one_ : ∀ r q, resOne P s r = some q → ∃ u, (resSem a.tmps r).run P w = .ok u w ∧ VR w (both X0 s.H) u q := by
    intro r q hr
    cases r with
    | tmp t =>
      simp only [resOne, Option.some.injEq] at hr
      subst hr
      exact ⟨_, rfl, h.env t⟩
    | cell b t =>
      simp only [resOne] at hr
      have hvb := h.env b
      have conv : ∀ u v', (Instr.loadAt t v').run P w = .ok u w → (do loadVar t (← asAddr v') : Sem Value).run P w = .ok u w := by
        intro u v' hl
        cases v' <;> try (simp [Instr.loadAt, Instr.sureAddr] at hl; done)
        rename_i ad
        cases ad <;> simp [Instr.loadAt, Instr.sureAddr, asAddr] at hl ⊢
        exact hl
      split at hr
      · rename_i l sz i off e
        rw [e] at hvb
        obtain ⟨xs, hxs, hr⟩ := Option.bind_eq_some_iff.1 hr
        obtain ⟨y, hy, hr⟩ := Option.bind_eq_some_iff.1 hr
        obtain ⟨u, hu, hq⟩ := loadAt_ref h.heap hvb hxs hy hr
        exact ⟨u, conv _ _ hu, hq⟩
      · rename_i cs e
        rw [e] at hvb
        obtain ⟨u, hu, hq⟩ := loadAt_cptr hvb hr
        exact ⟨u, conv _ _ hu, hq⟩
      · cases hr
  have all : ∀ (l : List ResultVar) (qs : List PV), l.mapM (resOne P s) = some qs → ∃ us : List Value, (l.mapM (resSem a.tmps)).run P w = .ok us w ∧
      us.length = qs.length ∧ ∀ (i : Nat) u q, us[i]? = some u → qs[i]? = some q → VR w (both X0 s.H) u q := by
    intro l
    induction l with
    | nil =>
      intro qs hq
      simp at hq
      subst hq
      exact ⟨[], by simp, rfl, fun i u q h => by simp at h⟩
    | cons r l ih =>
      intro qs hq
      simp only [List.mapM_cons, Option.bind_eq_bind, Option.pure_def] at hq
      obtain ⟨q, hq1, hq⟩ := Option.bind_eq_some_iff.1 hq
      obtain ⟨qs', hq2, hq⟩ := Option.bind_eq_some_iff.1 hq
      obtain rfl := Option.some.inj hq
      obtain ⟨u, hu, huq⟩ := one_ r q hq1
      obtain ⟨us, hus, hl, hel⟩ := ih qs' hq2
      refine ⟨u :: us, ?_, by simp [hl], fun i v p hv hp => ?_⟩
      · rw [List.mapM_cons, Sem.run_bind, hu]
        simp only [Result.andThen_ok, Sem.run_bind, hus, Sem.run_pure]
      · cases i with
        | zero =>
          obtain rfl : u = v := by simpa using hv
          obtain rfl : q = p := by simpa using hp
          exact huq
        | succ i => exact hel i v p (by simpa using hv) (by simpa using hp)
  obtain ⟨us, hus, hl, hel⟩ := all _ _ hvs
  have hrun : (results fn a.tmps).run P w = .ok (if h : us.toArray.size = 1 then us.toArray[0] else .tuple us.toArray) w := by
    rw [results_eq, Sem.run_bind, Array.mapM_eq_mapM_toList, Sem.run_map, hus]
    rfl
  refine ⟨_, hrun, ?_⟩
  cases hvs' : vs with
  | nil =>
    subst hvs'
    obtain rfl := List.eq_nil_of_length_eq_zero hl
    exact .tup [] _ rfl (fun i v p h => by simp at h)
  | cons q qs =>
    subst hvs'
    cases qs with
    | nil =>
      obtain ⟨u, rfl⟩ : ∃ u, us = [u] := List.length_eq_one_iff.1 (by simpa using hl)
      exact hel 0 u q rfl rfl
    | cons q' qs =>
      have h2 : ¬ us.toArray.size = 1 := by simp at hl ⊢; omega
      rw [dif_neg h2]
      exact .tup _ _ (by simpa using hl) (fun i v p hv hp => hel i v p (by simpa using hv) hp)

/-- How the body of a pure call ends. -/
def PureEnd (P : Program) (fn : Func) (r : PV) (x : X) (s : St) : Prop :=
  (x = .normal ∨ x = .ret) ∧ ∃ v keep n, resVal P fn.results s = some v ∧ norm keep s.H n v = some r

theorem start_SR {w : World} {fn : Func} {vs : Array Value} {as : List PV} {H : Hp} (hX : ∀ b, X0 b → b < w.heap.size) (hH : HR w X0 H) (hv : VRs w (both X0 H) vs as) (hl : as.length ≤ fn.ntmps) :
    SR P fn.ntmps w (own H) X0 ⟨argEnv as, H⟩ { tmps := vs ++ Array.replicate (fn.ntmps - vs.size) undef, defers := [] } w := by
  refine ⟨?_, rfl, fun i => ?_, hH, Fr.refl _ _, fun b hb => .inl hb, hX⟩
  · have := hv.1
    simp; omega
  · show VR w (both X0 H) ((vs ++ Array.replicate (fn.ntmps - vs.size) undef).getD i undef) (argEnv as i)
    unfold argEnv
    rw [Array.getD_eq_getD_getElem?, List.getD_eq_getElem?_getD]
    rcases Nat.lt_or_ge i vs.size with h | h
    · rw [Array.getElem?_append_left h]
      have h' : i < as.length := by rw [← hv.1]; exact h
      have := hv.2 i vs[i] as[i] (Array.getElem?_eq_getElem h) (List.getElem?_eq_getElem h')
      rw [Array.getElem?_eq_getElem h, List.getElem?_eq_getElem h']
      exact this
    · rw [Array.getElem?_append_right h, List.getElem?_eq_none (by rw [← hv.1]; exact h)]
      have : (Array.replicate (fn.ntmps - vs.size) undef)[i - vs.size]?.getD undef = undef := by
        rw [Array.getElem?_replicate]
        split <;> rfl
      rw [this]
      exact .tup [] #[] rfl (fun i v p h => by simp at h)

theorem VRs.less_own {w : World} {vs : Array Value} {as : List PV} (h : VRs w X0 vs as) : VRs w (both X0 fun _ => none) vs as :=
  ⟨h.1, fun i v p hv hp => (h.2 i v p hv hp).less (fun b _ hb => hb.elim id (fun ⟨_, _, e⟩ => by cases e))⟩

theorem ppure_of_T {f : FuncId} {fn : Func} {c : Code} (h : FnOK P f fn c) {as : List PV} {r : PV} (hl : as.length ≤ fn.ntmps) (hT : T P c ⟨argEnv as, fun _ => none⟩ (PureEnd P fn r)) : PPure P f as r := by
  refine ⟨h.callable, fun w X vs hX hv => ?_⟩
  have hH : HR w X (fun _ => none) := fun l m sz xs e => by cases e
  have hown : ∀ b, ¬ own (fun _ => none) b := fun b ⟨_, _, e⟩ => by cases e
  have hs := start_SR (P := P) (fn := fn) hX hH (hv : VRs w X vs as).less_own hl
  refine calls_of_wp h.func h.body (wp_mono (T_wp h.mixed c _ _ _ _ h.dst hs hT) ?_)
  rintro e a' w' ⟨x, s', rfl, hs', hx, v, keep, n, hres, hn⟩
  obtain ⟨u, hu, huv⟩ := results_run hs' hres
  have hr : VR w' X u r := norm_VR hs'.heap (fun _ _ h => h) (fun b _ hb => .inl hb) (fun b c hb hX => by
    obtain ⟨m, sz, xs⟩ := c
    exact (hs'.heap _ _ _ _ hb).2.1 hX) n v r u huv hn
  have hb : Below w.heap.size w w' := (hs'.fr.weaken (fun b _ hb => absurd hb (hown b))).below
  rcases hx with rfl | rfl <;> exact ⟨hs'.defers, u, hu, u, rfl, hb, hr⟩

theorem callsG_of_T {f : FuncId} {fn : Func} {c : Code} (h : FnOK P f fn c) {as : List PV} {H : Hp} {K : PV → Hp → Prop} (hl : as.length ≤ fn.ntmps)
    (hT : T P c ⟨argEnv as, H⟩ (fun x s => (x = .normal ∨ x = .ret) ∧ ∃ v H', resVal P fn.results s = some v ∧ (∀ l c, H' l = some c → s.H l = some c) ∧ K v H')) : CallsG P f as H K := by
  refine ⟨h.callable, fun w X vs hX hH hv => ?_⟩
  have hs := start_SR (P := P) (fn := fn) hX hH hv hl
  refine calls_of_wp h.func h.body (wp_mono (T_wp h.mixed c _ _ _ _ h.dst hs hT) ?_)
  rintro e a' w' ⟨x, s', rfl, hs', hx, v, H', hres, hsub, hK⟩
  obtain ⟨u, hu, huv⟩ := results_run hs' hres
  have hs2 := hs'.sub hsub
  have hr : VR w' (both X H') u v := huv.less (fun b _ hb => hb.imp id (fun ⟨sz, xs, e⟩ => ⟨sz, xs, hsub _ _ e⟩))
  rcases hx with rfl | rfl <;> exact ⟨hs'.defers, u, hu, u, v, H', rfl, hs'.fr, hs2.heap, hs2.new, hr, hK⟩

end
end Go.Proofs.Ytloecggdboingaa
namespace Go.Proofs.Ytloecggdboingaa
open Go.RowKit
set_option linter.unusedVariables false
set_option linter.unusedSimpArgs false

def bodyOf (fn : Func) : Code := fn.body.getD .skip
/-- The closed facts of a function, as one Bool. -/
def fnB (P : Program) (f : FuncId) (fn : Func) : Bool :=
  P.follows .mixedOrders && fn.body.isSome && fn.name != "runtime.NumGoroutine" && dstOK fn.ntmps (bodyOf fn)
theorem FnOK.mk' {P : Program} {f : FuncId} {fn : Func} (hf : P.funcs[f]? = some fn) (h : fnB P f fn = true) : FnOK P f fn (bodyOf fn) := by
  unfold fnB at h
  simp only [Bool.and_eq_true] at h
  obtain ⟨⟨⟨h1, h2⟩, h3⟩, h4⟩ := h
  refine ⟨h1, hf, ?_, h3, h4⟩
  unfold bodyOf
  cases e : fn.body with
  | none => rw [e] at h2; cases h2
  | some c => rfl

section
variable {P : Program} {s : St}

/-! ### Code -/
def Kseq (P : Program) (b : Code) (Q : X → St → Prop) (x : X) (s : St) : Prop :=
  match x with
  | .normal => T P b s Q
  | x => Q x s
def Kblk (id : Nat) (Q : X → St → Prop) (x : X) (s : St) : Prop :=
  match x with
  | .exit id' => if id' = id then Q .normal s else Q (.exit id') s
  | x => Q x s
def Kinv (I : Nat → St → Prop) (k : Nat) (Q : X → St → Prop) (x : X) (s : St) : Prop :=
  match x with
  | .normal => ∃ k', k' < k ∧ I k' s
  | x => Q x s

theorem t_skip {Q : X → St → Prop} (h : Q .normal s) : T P .skip s Q := h
theorem t_seq {a b : Code} {Q : X → St → Prop} (h : T P a s (Kseq P b Q)) : T P (.seq a b) s Q := h
theorem t_block {id : Nat} {c : Code} {Q : X → St → Prop} (h : T P c s (Kblk id Q)) : T P (.block id c) s Q := h
theorem t_exit {id : Nat} {Q : X → St → Prop} (h : Q (.exit id) s) : T P (.exit id) s Q := h
theorem t_ret {Q : X → St → Prop} (h : Q .ret s) : T P .ret s Q := h
theorem t_cond {c : Operand} {x y : Code} {Q : X → St → Prop} (b : Bool) (hb : evo s c = .bool b) (h1 : b = true → T P x s Q) (h2 : b = false → T P y s Q) : T P (.cond c x y) s Q := by
  refine ⟨b, hb, ?_⟩
  cases b with
  | true => exact h1 rfl
  | false => exact h2 rfl
theorem t_region {id : Nat} {ops : Array Oper} {Q : X → St → Prop} (h : Tops P ops ops.toList s (Q .normal)) : T P (.region id ops false) s Q := h
theorem t_draw {id : Nat} {ops : Array Oper} {Q : X → St → Prop} (fl : List Bool) (hok : drawOK false ops fl = true) (h : TopsD P ops (marked ops.toList fl) s.H s (Q .normal)) : T P (.region id ops true) s Q := ⟨false, fl, hok, h⟩

theorem k_seq {b : Code} {Q : X → St → Prop} (h : T P b s Q) : Kseq P b Q .normal s := h
theorem k_seq_exit {b : Code} {Q : X → St → Prop} {id : Nat} (h : Q (.exit id) s) : Kseq P b Q (.exit id) s := h
theorem k_seq_ret {b : Code} {Q : X → St → Prop} (h : Q .ret s) : Kseq P b Q .ret s := h
theorem k_blk {id : Nat} {Q : X → St → Prop} (h : Q .normal s) : Kblk id Q .normal s := h
theorem k_blk_ret {id : Nat} {Q : X → St → Prop} (h : Q .ret s) : Kblk id Q .ret s := h
theorem k_blk_exit {id : Nat} {Q : X → St → Prop} (h : Q .normal s) : Kblk id Q (.exit id) s := by
  simp only [Kblk, if_true]; exact h
theorem k_blk_other {id id' : Nat} {Q : X → St → Prop} (hne : id' ≠ id) (h : Q (.exit id') s) : Kblk id Q (.exit id') s := by
  simp only [Kblk, hne, if_false]; exact h
theorem k_inv {I : Nat → St → Prop} {k : Nat} {Q : X → St → Prop} (k' : Nat) (hlt : k' < k) (h : I k' s) : Kinv I k Q .normal s := ⟨k', hlt, h⟩
theorem k_inv_exit {I : Nat → St → Prop} {k : Nat} {Q : X → St → Prop} {id : Nat} (h : Q (.exit id) s) : Kinv I k Q (.exit id) s := h
theorem k_inv_ret {I : Nat → St → Prop} {k : Nat} {Q : X → St → Prop} (h : Q .ret s) : Kinv I k Q .ret s := h

/-! ### More may follow -/
theorem tops_mono {ops : Array Oper} {K K' : St → Prop} (hk : ∀ s, K s → K' s) : ∀ (l : List Oper) (s : St), Tops P ops l s K → Tops P ops l s K'
  | [], s, h => hk s h
  | o :: rest, s, h => guard_mono h (fun h => top_mono h fun s' h => tops_mono hk rest s' h) (fun h => tops_mono hk rest _ h)

theorem CallQ.mono {f : FuncId} {as : List PV} {Hr : Hp} {K K' : PV → Prop} (h : CallQ P f as Hr K) (hk : ∀ v, K v → K' v) : CallQ P f as Hr K' := by
  rcases h with ⟨keep, n, as', r, h1, h2, h3, h4⟩ | ⟨keep, n, as', r, h1, h2, h3⟩
  · exact .inl ⟨keep, n, as', r, h1, h2, h3, hk _ h4⟩
  · exact .inr ⟨keep, n, as', r, h1, h2, hk _ h3⟩

theorem topsD_mono {ops : Array Oper} {K K' : St → Prop} (hk : ∀ s, K s → K' s) : ∀ (l : List (Oper × Bool)) (Hr : Hp) (s : St), TopsD P ops l Hr s K → TopsD P ops l Hr s K'
  | [], Hr, s, h => hk s h
  | (o, true) :: rest, Hr, s, h => guard_mono h (fun h => top_mono h fun s' h => topsD_mono hk rest _ s' h) (fun h => topsD_mono hk rest _ _ h)
  | (o, false) :: rest, Hr, s, h => Step.mono (show Step P ops Hr o s _ from h) fun s' h => topsD_mono hk rest Hr s' h

theorem T_mono : ∀ (c : Code) (s : St) (Q Q' : X → St → Prop), (∀ x s, Q x s → Q' x s) → T P c s Q → T P c s Q' := by
  intro c
  induction c with
  | skip => intro s Q Q' hq h; exact hq _ _ h
  | region id ops draw =>
    intro s Q Q' hq h
    cases draw with
    | false => exact tops_mono (hq .normal) ops.toList s h
    | true =>
      obtain ⟨z, fl, hok, h⟩ := h
      exact ⟨z, fl, hok, topsD_mono (hq .normal) _ _ s h⟩
  | seq a b iha ihb =>
    intro s Q Q' hq h
    refine iha s _ _ (fun x s' hx => ?_) h
    cases x with
    | normal => exact ihb s' Q Q' hq hx
    | exit id => exact hq _ _ hx
    | ret => exact hq _ _ hx
  | cond c a b iha ihb =>
    intro s Q Q' hq h
    obtain ⟨t, ht, h⟩ := h
    refine ⟨t, ht, ?_⟩
    cases t with
    | true => exact iha s Q Q' hq h
    | false => exact ihb s Q Q' hq h
  | block id c ih =>
    intro s Q Q' hq h
    refine ih s _ _ (fun x s' hx => ?_) h
    cases x with
    | normal => exact hq _ _ hx
    | exit id' =>
      by_cases e : id' = id
      · simp only [e, if_true] at hx ⊢; exact hq _ _ hx
      · simp only [e, if_false] at hx ⊢; exact hq _ _ hx
    | ret => exact hq _ _ hx
  | loop c ih =>
    intro s Q Q' hq h
    obtain ⟨k, h⟩ := h
    refine ⟨k, ?_⟩
    induction k generalizing s with
    | zero => exact h
    | succ k ihk =>
      refine ih s _ _ (fun x s' hx => ?_) h
      cases x with
      | normal => exact ihk s' hx
      | exit id => exact hq _ _ hx
      | ret => exact hq _ _ hx
  | exit id => intro s Q Q' hq h; exact hq _ _ h
  | ret => intro s Q Q' hq h; exact hq _ _ h
  | rangeFunc f ps as b => intro s Q Q' hq h; exact h
  | scope b => intro s Q Q' hq h; exact h
  | label l => intro s Q Q' hq h; exact h
  | goto l => intro s Q Q' hq h; exact h
  | refuse why => intro s Q Q' hq h; exact h

theorem iter_mono_k {F : St → (X → St → Prop) → Prop} (hF : ∀ s Q Q', (∀ x s, Q x s → Q' x s) → F s Q → F s Q') {Q : X → St → Prop} : ∀ (k j : Nat) (s : St), k ≤ j → iter F k s Q → iter F j s Q := by
  intro k
  induction k with
  | zero => intro j s _ h; exact h.elim
  | succ k ih =>
    intro j s hj h
    obtain ⟨j, rfl⟩ : ∃ j', j = j' + 1 := ⟨j - 1, by omega⟩
    refine hF s _ _ (fun x s' hx => ?_) h
    cases x with
    | normal => exact ih j s' (by omega) hx
    | exit id => exact hx
    | ret => exact hx

/-- A loop, by what holds at its head, with a measure. -/
theorem t_loop {c : Code} {Q : X → St → Prop} (I : Nat → St → Prop) (k : Nat) (h0 : I k s) (step : ∀ k s, I k s → T P c s (Kinv I k Q)) : T P (.loop c) s Q := by
  refine ⟨k + 1, ?_⟩
  have key : ∀ (k : Nat) (s : St), I k s → iter (T P c) (k + 1) s Q := by
    intro k
    induction k using Nat.strongRecOn with
    | _ k ih =>
      intro s hs
      refine T_mono c s _ _ (fun x s' hx => ?_) (step k s hs)
      cases x with
      | normal =>
        obtain ⟨k', hlt, h'⟩ := hx
        exact iter_mono_k (T_mono c) (k' + 1) k s' (by omega) (ih k' hlt s' h')
      | exit id => exact hx
      | ret => exact hx
  exact key k s h0

/-! ### Operations -/
section
variable {ops : Array Oper} {K : St → Prop} {rest : List Oper} {dst : Option Tmp} {ty : TypeId} {pos : String} {af : Array Edge}

theorem t_nil (h : K s) : Tops P ops [] s K := h
theorem t_val {op : Op} (v : PV) (he : isEff op = false) (hc : ∀ g args ts, op ≠ .call ⟨.value g, args, ts⟩) (hv : opVal P s op = some v) (h : Tops P ops rest (s.put dst v) K) :
    Tops P ops (⟨dst, op, ty, pos, af, none⟩ :: rest) s K := by
  show Tguard _ _ _ _ _
  unfold Tguard
  simp only
  unfold Top
  split
  · rename_i g args ts ho; exact absurd ho (hc _ _ _)
  · rw [he]; exact ⟨v, hv, h⟩
theorem t_eff {op : Op} (he : isEff op = true) (h : opEff P true s op fun v H' => Tops P ops rest ({ s with H := H' }.put dst v) K) : Tops P ops (⟨dst, op, ty, pos, af, none⟩ :: rest) s K := by
  show Tguard _ _ _ _ _
  unfold Tguard
  simp only
  unfold Top
  split
  · rename_i g args ts ho
    have ho : op = _ := ho
    subst ho
    cases he
  · rw [if_pos he]; exact h
theorem t_call {g : Operand} {args : Array Operand} {ts : Array TypeId} (f : Nat) (caps : List PV) (hg : evo s g = .fn f caps)
    (h : CallOK P f (args.toList.map (evo s) ++ caps) s.H fun r H' => Tops P ops rest ({ s with H := H' }.put dst r) K) : Tops P ops (⟨dst, .call ⟨.value g, args, ts⟩, ty, pos, af, none⟩ :: rest) s K := by
  show Tguard _ _ _ _ _
  unfold Tguard
  simp only
  unfold Top
  simp only [hg]
  exact h

/-- Under a guard: what the operation gives if it runs, nothing else. -/
theorem t_gval {op : Op} {j : Nat} {want : Bool} {d : Tmp} (b : Bool) (v : PV) (hd : (ops[j]?).bind (·.dst) = some d) (hb : s.env d = .bool b) (he : isEff op = false) (hc : ∀ g args ts, op ≠ .call ⟨.value g, args, ts⟩)
    (hv : b = want → opVal P s op = some v) (h : Tops P ops rest (s.put dst (if b = want then v else .tup [])) K) :
    Tops P ops (⟨dst, op, ty, pos, af, some (j, want)⟩ :: rest) s K := by
  show Tguard _ _ _ _ _
  unfold Tguard
  simp only [hd, hb]
  split
  · rename_i hw
    rw [if_pos hw] at h
    unfold Top
    split
    · rename_i g args ts ho; exact absurd ho (hc _ _ _)
    · rw [he]; exact ⟨v, hv hw, h⟩
  · rename_i hw
    rw [if_neg hw] at h
    exact h
/-- The guard's operation did not run. -/
theorem t_gskip {op : Op} {j : Nat} {want : Bool} {d : Tmp} (hd : (ops[j]?).bind (·.dst) = some d) (hb : s.env d = .tup []) (h : Tops P ops rest (s.put dst (.tup [])) K) :
    Tops P ops (⟨dst, op, ty, pos, af, some (j, want)⟩ :: rest) s K := by
  show Tguard _ _ _ _ _
  unfold Tguard
  simp only [hd, hb]
  exact h
/-- A guard that is known. -/
theorem t_guard {op : Op} {j : Nat} {want : Bool} {d : Tmp} (b : Bool) (hd : (ops[j]?).bind (·.dst) = some d) (hb : s.env d = .bool b)
    (h1 : b = want → Top P ⟨dst, op, ty, pos, af, some (j, want)⟩ s fun s' => Tops P ops rest s' K) (h2 : b ≠ want → Tops P ops rest (s.put dst (.tup [])) K) :
    Tops P ops (⟨dst, op, ty, pos, af, some (j, want)⟩ :: rest) s K := by
  show Tguard _ _ _ _ _
  unfold Tguard
  simp only [hd, hb]
  split
  · exact h1 (by assumption)
  · exact h2 (by assumption)

theorem norm_ok {keep : Bool} {H : Hp} {n : Nat} {as : List PV} (h : as.all (closedB keep) = true) : as.mapM (norm keep H (n + 1)) = some as := by
  induction as with
  | nil => simp
  | cons a as ih =>
    simp only [List.all_cons, Bool.and_eq_true] at h
    rw [List.mapM_cons, norm_closed h.1, ih h.2]
    rfl

/-- A pure call with closed arguments. -/
theorem callok {f : FuncId} {as : List PV} {H : Hp} {K : PV → Hp → Prop} (keep : Bool) (ha : as.all (closedB keep) = true) (r : PV) (hp : PPure P f as r) (h : K r H) : CallOK P f as H K :=
  .inr (.inl ⟨keep, 1, [], as, r, norm_ok ha, hp, by rw [frz_nil]; exact h⟩)
/-- A pure call whose arguments lead to own memory; the result leads to none. -/
theorem callok_own {f : FuncId} {as : List PV} {H : Hp} {K : PV → Hp → Prop} (keep : Bool) (n : Nat) (as' : List PV) (ha : as.mapM (norm keep H n) = some as') (r : PV) (hs : scalarB r = true) (hp : PPure P f as' r) (h : K r H) : CallOK P f as H K :=
  .inl ⟨keep, n, as', r, ha, hs, hp, h⟩
theorem callok_frz {f : FuncId} {as : List PV} {H : Hp} {K : PV → Hp → Prop} (keep : Bool) (n : Nat) (L : List Lab) (as' : List PV) (ha : as.mapM (norm keep (restr L H) n) = some as') (r : PV) (hp : PPure P f as' r) (h : K r (frz L H)) : CallOK P f as H K :=
  .inr (.inl ⟨keep, n, L, as', r, ha, hp, h⟩)
theorem callok_gen {f : FuncId} {as : List PV} {H : Hp} {K : PV → Hp → Prop} (h : CallsG P f as H K) : CallOK P f as H K := .inr (.inr h)
theorem callq {f : FuncId} {as : List PV} {H : Hp} {K : PV → Prop} (keep : Bool) (ha : as.all (closedB keep) = true) (r : PV) (hp : PPure P f as r) (h : K r) : CallQ P f as H K :=
  .inr ⟨keep, 1, as, r, norm_ok ha, hp, h⟩
theorem callq_own {f : FuncId} {as : List PV} {H : Hp} {K : PV → Prop} (keep : Bool) (n : Nat) (as' : List PV) (ha : as.mapM (norm keep H n) = some as') (r : PV) (hs : scalarB r = true) (hp : PPure P f as' r) (h : K r) : CallQ P f as H K :=
  .inl ⟨keep, n, as', r, ha, hs, hp, h⟩

/-- A pure call under a guard. -/
theorem t_gcall {g : Operand} {args : Array Operand} {ts : Array TypeId} {j : Nat} {want : Bool} {d : Tmp} (b : Bool) (f : Nat) (caps : List PV) (r : PV) (hd : (ops[j]?).bind (·.dst) = some d) (hb : s.env d = .bool b)
    (hg : evo s g = .fn f caps) (hp : b = want → ∃ keep, (args.toList.map (evo s) ++ caps).all (closedB keep) = true ∧ PPure P f (args.toList.map (evo s) ++ caps) r) (h : Tops P ops rest (s.put dst (if b = want then r else .tup [])) K) :
    Tops P ops (⟨dst, .call ⟨.value g, args, ts⟩, ty, pos, af, some (j, want)⟩ :: rest) s K := by
  show Tguard _ _ _ _ _
  unfold Tguard
  simp only [hd, hb]
  split
  · rename_i hw
    rw [if_pos hw] at h
    unfold Top
    simp only [hg]
    obtain ⟨keep, ha, hp⟩ := hp hw
    exact callok keep ha r hp h
  · rename_i hw
    rw [if_neg hw] at h
    exact h
end

/-! ### Operations of a region that draws its order -/
section
variable {ops : Array Oper} {K : St → Prop} {rest : List (Oper × Bool)} {dst : Option Tmp} {ty : TypeId} {pos : String} {af : Array Edge} {Hr : Hp}

theorem d_nil (h : K s) : TopsD P ops [] Hr s K := h
theorem d_val {op : Op} (v : PV) (he : isEff op = false) (hc : ∀ g args ts, op ≠ .call ⟨.value g, args, ts⟩) (hv : opVal P { s with H := Hr } op = some v) (h : TopsD P ops rest Hr (s.put dst v) K) :
    TopsD P ops ((⟨dst, op, ty, pos, af, none⟩, false) :: rest) Hr s K := by
  show Tguard _ _ _ _ _
  unfold Tguard
  simp only
  unfold TopQ
  split
  · rename_i g args ts ho; exact absurd ho (hc _ _ _)
  · rename_i t ho; have ho : op = _ := ho; subst ho; cases he
  · rename_i t x ho; have ho : op = _ := ho; subst ho; cases he
  · rename_i args ts ho; have ho : op = _ := ho; subst ho; cases he
  · exact ⟨he, v, hv, h⟩
theorem d_call {g : Operand} {args : Array Operand} {ts : Array TypeId} (f : Nat) (caps : List PV) (hg : evo s g = .fn f caps)
    (h : CallQ P f (args.toList.map (evo s) ++ caps) Hr fun r => TopsD P ops rest Hr (s.put dst r) K) : TopsD P ops ((⟨dst, .call ⟨.value g, args, ts⟩, ty, pos, af, none⟩, false) :: rest) Hr s K := by
  show Tguard _ _ _ _ _
  unfold Tguard
  simp only
  unfold TopQ
  simp only [hg]
  exact h
theorem d_eff {o : Oper} (h : Tguard ops o s (Top P o s fun s' => TopsD P ops rest s'.H s' K) (TopsD P ops rest s.H (s.put o.dst (.tup [])) K)) : TopsD P ops ((o, true) :: rest) Hr s K := h
theorem d_gval {op : Op} {j : Nat} {want : Bool} {d : Tmp} (b : Bool) (v : PV) (hd : (ops[j]?).bind (·.dst) = some d) (hb : s.env d = .bool b) (he : isEff op = false) (hc : ∀ g args ts, op ≠ .call ⟨.value g, args, ts⟩)
    (hv : b = want → opVal P { s with H := Hr } op = some v) (h : TopsD P ops rest Hr (s.put dst (if b = want then v else .tup [])) K) :
    TopsD P ops ((⟨dst, op, ty, pos, af, some (j, want)⟩, false) :: rest) Hr s K := by
  show Tguard _ _ _ _ _
  unfold Tguard
  simp only [hd, hb]
  split
  · rename_i hw
    rw [if_pos hw] at h
    unfold TopQ
    split
    · rename_i g args ts ho; exact absurd ho (hc _ _ _)
    · rename_i t ho; have ho : op = _ := ho; subst ho; cases he
    · rename_i t x ho; have ho : op = _ := ho; subst ho; cases he
    · rename_i args ts ho; have ho : op = _ := ho; subst ho; cases he
    · exact ⟨he, v, hv hw, h⟩
  · rename_i hw
    rw [if_neg hw] at h
    exact h
theorem d_gcall {g : Operand} {args : Array Operand} {ts : Array TypeId} {j : Nat} {want : Bool} {d : Tmp} (b : Bool) (f : Nat) (caps : List PV) (r : PV) (hd : (ops[j]?).bind (·.dst) = some d) (hb : s.env d = .bool b)
    (hg : evo s g = .fn f caps) (hp : b = want → ∃ keep, (args.toList.map (evo s) ++ caps).all (closedB keep) = true ∧ PPure P f (args.toList.map (evo s) ++ caps) r) (h : TopsD P ops rest Hr (s.put dst (if b = want then r else .tup [])) K) :
    TopsD P ops ((⟨dst, .call ⟨.value g, args, ts⟩, ty, pos, af, some (j, want)⟩, false) :: rest) Hr s K := by
  show Tguard _ _ _ _ _
  unfold Tguard
  simp only [hd, hb]
  split
  · rename_i hw
    rw [if_pos hw] at h
    unfold TopQ
    simp only [hg]
    obtain ⟨keep, ha, hp⟩ := hp hw
    exact callq keep ha r hp h
  · rename_i hw
    rw [if_neg hw] at h
    exact h
end
end
end Go.Proofs.Ytloecggdboingaa
namespace Go.Proofs.Ytloecggdboingaa
open Go.RowKit
set_option linter.unusedVariables false
set_option linter.unusedSimpArgs false

def TopsDm (P : Program) (ops : Array Oper) (l : List Oper) (fl : List Bool) (Hr : Hp) (s : St) (K : St → Prop) : Prop := TopsD P ops (marked l fl) Hr s K

section
variable {P : Program} {s : St}
theorem t_reg {id : Nat} {l : List Oper} {Q : X → St → Prop} (h : Tops P l.toArray l s (Q .normal)) : T P (.region id l.toArray false) s Q := t_region h
theorem t_drw {id : Nat} {l : List Oper} {Q : X → St → Prop} (fl : List Bool) (hok : drawOK false l.toArray fl = true) (h : TopsDm P l.toArray l fl s.H s (Q .normal)) : T P (.region id l.toArray true) s Q := t_draw fl hok h

section
variable {ops : Array Oper} {K : St → Prop} {rest : List Oper} {dst : Option Tmp} {ty : TypeId} {pos : String} {af : Array Edge} {Hr : Hp} {fl : List Bool}
theorem m_nil (h : K s) : TopsDm P ops [] fl Hr s K := h
theorem m_false {o : Oper} (hf : fl.headD false = false) (h : TopsD P ops ((o, false) :: marked rest fl.tail) Hr s K) : TopsDm P ops (o :: rest) fl Hr s K := by
  unfold TopsDm; rw [marked, hf]; exact h
theorem m_true {o : Oper} (hf : fl.headD false = true) (h : TopsD P ops ((o, true) :: marked rest fl.tail) Hr s K) : TopsDm P ops (o :: rest) fl Hr s K := by
  unfold TopsDm; rw [marked, hf]; exact h
theorem m_val {op : Op} (v : PV) (hf : fl.headD false = false) (he : isEff op = false) (hc : ∀ g args ts, op ≠ .call ⟨.value g, args, ts⟩) (hv : opVal P { s with H := Hr } op = some v) (h : TopsDm P ops rest fl.tail Hr (s.put dst v) K) :
    TopsDm P ops (⟨dst, op, ty, pos, af, none⟩ :: rest) fl Hr s K := m_false hf (d_val v he hc hv h)
theorem m_call {g : Operand} {args : Array Operand} {ts : Array TypeId} (f : Nat) (caps : List PV) (hf : fl.headD false = false) (hg : evo s g = .fn f caps)
    (h : CallQ P f (args.toList.map (evo s) ++ caps) Hr fun r => TopsDm P ops rest fl.tail Hr (s.put dst r) K) : TopsDm P ops (⟨dst, .call ⟨.value g, args, ts⟩, ty, pos, af, none⟩ :: rest) fl Hr s K := m_false hf (d_call f caps hg h)
theorem m_gval {op : Op} {j : Nat} {want : Bool} {d : Tmp} (b : Bool) (v : PV) (hf : fl.headD false = false) (hd : (ops[j]?).bind (·.dst) = some d) (hb : s.env d = .bool b) (he : isEff op = false) (hc : ∀ g args ts, op ≠ .call ⟨.value g, args, ts⟩)
    (hv : b = want → opVal P { s with H := Hr } op = some v) (h : TopsDm P ops rest fl.tail Hr (s.put dst (if b = want then v else .tup [])) K) :
    TopsDm P ops (⟨dst, op, ty, pos, af, some (j, want)⟩ :: rest) fl Hr s K := m_false hf (d_gval b v hd hb he hc hv h)
theorem m_gcall {g : Operand} {args : Array Operand} {ts : Array TypeId} {j : Nat} {want : Bool} {d : Tmp} (b : Bool) (f : Nat) (caps : List PV) (r : PV) (hf : fl.headD false = false) (hd : (ops[j]?).bind (·.dst) = some d) (hb : s.env d = .bool b)
    (hg : evo s g = .fn f caps) (hp : b = want → ∃ keep, (args.toList.map (evo s) ++ caps).all (closedB keep) = true ∧ PPure P f (args.toList.map (evo s) ++ caps) r) (h : TopsDm P ops rest fl.tail Hr (s.put dst (if b = want then r else .tup [])) K) :
    TopsDm P ops (⟨dst, .call ⟨.value g, args, ts⟩, ty, pos, af, some (j, want)⟩ :: rest) fl Hr s K := m_false hf (d_gcall b f caps r hd hb hg hp h)
/-- A guard that is decided. -/
theorem t_gyes {op : Op} {j : Nat} {want : Bool} {d : Tmp} (hd : (ops[j]?).bind (·.dst) = some d) (hb : s.env d = .bool want) (h : Tops P ops (⟨dst, op, ty, pos, af, none⟩ :: rest) s K) :
    Tops P ops (⟨dst, op, ty, pos, af, some (j, want)⟩ :: rest) s K := by
  show Tguard _ _ _ _ _
  unfold Tguard
  simp only [hd, hb, if_true]
  exact h
theorem t_gno {op : Op} {j : Nat} {want b : Bool} {d : Tmp} (hd : (ops[j]?).bind (·.dst) = some d) (hb : s.env d = .bool b) (hne : (b == want) = false) (h : Tops P ops rest (s.put dst (.tup [])) K) :
    Tops P ops (⟨dst, op, ty, pos, af, some (j, want)⟩ :: rest) s K := by
  show Tguard _ _ _ _ _
  unfold Tguard
  simp only [hd, hb]
  rw [if_neg (by simpa using hne)]
  exact h
theorem m_gyes {op : Op} {j : Nat} {want : Bool} {d : Tmp} (hd : (ops[j]?).bind (·.dst) = some d) (hb : s.env d = .bool want) (h : TopsDm P ops (⟨dst, op, ty, pos, af, none⟩ :: rest) fl Hr s K) :
    TopsDm P ops (⟨dst, op, ty, pos, af, some (j, want)⟩ :: rest) fl Hr s K := by
  unfold TopsDm at h ⊢
  rw [marked] at h ⊢
  cases hf : fl.headD false with
  | true =>
    rw [hf] at h
    show Tguard _ _ _ _ _
    unfold Tguard
    simp only [hd, hb, if_true]
    exact h
  | false =>
    rw [hf] at h
    show Tguard _ _ _ _ _
    unfold Tguard
    simp only [hd, hb, if_true]
    exact h
theorem m_gno {op : Op} {j : Nat} {want b : Bool} {d : Tmp} (hd : (ops[j]?).bind (·.dst) = some d) (hb : s.env d = .bool b) (hf : fl.headD false = false) (hne : (b == want) = false) (h : TopsDm P ops rest fl.tail Hr (s.put dst (.tup [])) K) :
    TopsDm P ops (⟨dst, op, ty, pos, af, some (j, want)⟩ :: rest) fl Hr s K := by
  refine m_false hf ?_
  show Tguard _ _ _ _ _
  unfold Tguard
  simp only [hd, hb]
  rw [if_neg (by simpa using hne)]
  exact h
end
end

/-! ### What simp may open -/
theorem wrap64_of {n : Int} (h1 : -9223372036854775808 ≤ n) (h2 : n ≤ 9223372036854775807) : IntKind.i64.wrap n = n := by rw [IntKind.wrap_i64]; omega
theorem pick_bool (b x y : Bool) : (if b = true then PV.bool x else PV.bool y) = PV.bool (if b = true then x else y) := by split <;> rfl
theorem pick_bool' (b x y : Bool) : (if b = false then PV.bool x else PV.bool y) = PV.bool (if b = false then x else y) := by split <;> rfl
theorem ite_or (b x : Bool) : (if b = true then true else x) = (b || x) := by cases b <;> rfl
theorem ite_and (b x : Bool) : (if b = true then x else false) = (b && x) := by cases b <;> rfl
theorem ite_and' (b x : Bool) : (if b = false then x else false) = (!b && x) := by cases b <;> rfl
theorem ite_or' (b x : Bool) : (if b = false then x else true) = (b || x) := by cases b <;> rfl
theorem ite_gt (b : Bool) (x y z : PV) : (if b = true then (if b = true then x else y) else z) = if b = true then x else z := by cases b <;> rfl
theorem ite_gf (b : Bool) (x y z : PV) : (if b = true then z else (if b = false then x else y)) = if b = true then z else x := by cases b <;> rfl
theorem argEnv_zero (a : PV) (as : List PV) : argEnv (a :: as) 0 = a := rfl
theorem argEnv_succ (a : PV) (as : List PV) (n : Nat) : argEnv (a :: as) (n + 1) = argEnv as n := rfl
theorem argEnv_nil (n : Nat) : argEnv [] n = .tup [] := rfl
theorem put_env (s : St) (d : Nat) (v : PV) : (s.put (some d) v).env = upd s.env d v := rfl
theorem put_none (s : St) (v : PV) : s.put none v = s := rfl
theorem put_Hs (s : St) (d : Option Nat) (v : PV) : (s.put d v).H = s.H := put_H'
theorem env_mk (e : Nat → PV) (H : Hp) : (St.mk e H).env = e := rfl
theorem H_mk (e : Nat → PV) (H : Hp) : (St.mk e H).H = H := rfl

attribute [go_sem] evo ofValue ofCell put_env put_none put_Hs env_mk H_mk upd_apply argEnv_zero argEnv_succ argEnv_nil strCmp pvUn pvConv pick_bool pick_bool' ite_or ite_and ite_and' ite_or' ite_gt ite_gf
  PV.cells rowOf ownRow boundOf pvMinMax isEff fillP splice closedB closedL scalarB scalarL closedL_eq scalarL_eq resVal resOne one itemsOf PV.isDef PV.isCell PV.isAgg setC
end Go.Proofs.Ytloecggdboingaa
