/- Steps for proofs over T (3): types by short facts, calls and ends in one step. -/
import Derived.Test.YtloecggdboingaaFB
import Derived.WalkKit
import Derived.ProofKit
import Derived.OpenShut
import Derived.ShutString
import Derived.ChangeOld
import Derived.SizedLaws
import Derived.Carry
import Derived.Deep.Slices
namespace Go.Proofs.Ytloecggdboingaa
open Go.RowKit
set_option linter.unusedVariables false
set_option linter.unusedSimpArgs false

/-- Is the type one of structs or arrays? -/
def kindT (P : Program) (t : TypeId) : Option Bool :=
  match P.underlying t with
  | some (.struct _) | some (.array _ _) => some true
  | some _ => some false
  | none => none
/-- A field's type and place. -/
def fieldP (P : Program) (t : TypeId) (f : Nat) : Option (TypeId × Nat) :=
  match P.underlying t with
  | some (.struct fs) => (fs[f]?).map fun fd => (fd.type, fd.offset)
  | _ => none
def structT (P : Program) (t : TypeId) : Bool :=
  match P.underlying t with
  | some (.struct _) => true
  | _ => false
def placeT (P : Program) (t : TypeId) (i : Nat) : Option (Nat × Nat) := (fieldP P t i).map fun q => (q.2, P.cellsOf q.1)

section
variable {P : Program} {s : St}
theorem loadCs_kind (t : TypeId) (cs : List PV) (off : Nat) :
    loadCs P t cs off = match kindT P t with
      | some true => if off + P.cellsOf t ≤ cs.length then some (.agg ((cs.drop off).take (P.cellsOf t))) else none
      | some false => cs[off]?
      | none => none := by
  unfold loadCs kindT
  cases h : P.underlying t with
  | none => rfl
  | some d => cases d <;> rfl
theorem opVal_field (t : TypeId) (x : Operand) (f : Nat) : opVal P s (.field t x f) = match evo s x with
    | .agg cs => (fieldP P t f).bind fun q => loadCs P q.1 cs q.2
    | _ => none := by
  show (match evo s x with
    | .agg cs => match P.underlying t with
      | some (.struct fs) => (fs[f]?).bind fun fd => loadCs P fd.type cs fd.offset
      | _ => none
    | _ => none) = _
  split
  · unfold fieldP
    split
    · rename_i fs h; cases fs[f]? <;> rfl
    · rfl
  · rfl
theorem opVal_fieldAddr (t : TypeId) (x : Operand) (f : Nat) : opVal P s (.fieldAddr t x f) = (fieldP P t f).bind fun q => if P.cellsOf q.1 = 0 then none else
      match evo s x with
      | .ref l sz i off => some (.ref l sz i (off + q.2))
      | .cptr cs => if q.2 ≤ cs.length then some (.cptr (cs.drop q.2)) else none
      | _ => none := by
  simp only [opVal]
  unfold fieldP
  cases P.underlying t with
  | none => rfl
  | some d =>
    cases d <;> first | rfl | skip
    rename_i fs
    cases h : fs[f]? <;> simp only [h] <;> rfl
theorem opVal_build (t : TypeId) (parts : Array (Nat × Operand)) (hs : structT P t = true) (hg : goodT P t = true) : opVal P s (.build t parts) =
    (tzero P t).bind fun z => (fillP (placeT P t) z.cells (parts.toList.map fun q => (q.1, evo s q.2))).map .agg := by
  unfold structT at hs
  split at hs
  · rename_i fs h
    simp only [opVal]
    have hp : placeT P t = fun i => (fs[i]?).map fun f : Field => (f.offset, P.cellsOf f.type) := by
      funext i; unfold placeT fieldP; rw [h]; show Option.map _ (Option.map _ _) = _; rw [Option.map_map]; rfl
    rw [h, hp]
    simp only [hg]
    rfl
  · cases hs

theorem opVal_move (x : Operand) : opVal P s (.move x) = some (evo s x) := rfl
theorem opVal_assign (x : Operand) : opVal P s (.assign x) = some (evo s x) := rfl
theorem opVal_pick (c a b : Operand) : opVal P s (.pick c a b) = match evo s c with
    | .bool t => some (if t = true then evo s a else evo s b)
    | _ => none := rfl
theorem opVal_binOp (op : BinOp) (t : TypeId) (x y : Operand) (u : TypeId) : opVal P s (.binOp op t x y u) = pvBin P op t (evo s x) (evo s y) := rfl
theorem opVal_unOp (op : UnOp) (t : TypeId) (x : Operand) : opVal P s (.unOp op t x) = pvUn op (evo s x) := rfl
theorem opVal_convert (a b : TypeId) (x : Operand) : opVal P s (.convert a b x) = match pvConv P a b (evo s x) with
    | some p => some p
    | none => pvConvB P a b (evo s x) := rfl
theorem opVal_extract (x : Operand) (i : Nat) : opVal P s (.extract x i) = match evo s x with
    | .tup vs => vs[i]?
    | _ => none := rfl
theorem opVal_func (f : FuncId) (caps : Array Operand) : opVal P s (.makeFunc (.func f) #[] caps) = some (.fn f (caps.toList.map (evo s))) := rfl
theorem opVal_load (t : TypeId) (x : Operand) : opVal P s (.load t x) = match evo s x with
    | .ref l sz i off => (rowOf s.H l sz).bind fun xs => (xs[i]?).bind fun x => loadCs P t x.cells off
    | .cptr cs => loadCs P t cs 0
    | _ => none := rfl
def widthB (n : Nat) (xs : List PV) : Bool := xs.all fun x => x.cells.length == n
theorem pvSlice_eq (t : TypeId) (x : PV) (lo hi mx : Option Operand) : pvSlice P s t x lo hi mx = match P.underlying t, x with
  | some .string, .str l =>
    (boundOf s 0 lo).bind fun a => (boundOf s l.length hi).bind fun b =>
      if mx.isNone = true ∧ 0 ≤ a ∧ a ≤ b ∧ b ≤ l.length then some (.str ((l.take b.toNat).drop a.toNat)) else none
  | some (.slice e), .list k xs =>
    (boundOf s 0 lo).bind fun a => (boundOf s xs.length hi).bind fun b =>
      match mx with
      | none => if 0 ≤ a ∧ a ≤ b ∧ b ≤ xs.length ∧ widthB (P.cellsOf e) xs = true ∧ P.cellsOf e ≠ 0 then some (.list .any ((xs.take b.toNat).drop a.toNat)) else none
      | some m => match evo s m with
        | .int _ c => if 0 ≤ a ∧ a ≤ b ∧ b = c ∧ b ≤ xs.length ∧ widthB (P.cellsOf e) xs = true ∧ hi.isSome = true ∧ P.cellsOf e ≠ 0 then some (.list .full ((xs.take b.toNat).drop a.toNat)) else none
        | _ => none
  | some (.slice e), .arr l sz lo' len =>
    (boundOf s 0 lo).bind fun a => (boundOf s len hi).bind fun b =>
      if mx.isNone = true ∧ 0 ≤ a ∧ a ≤ b ∧ b ≤ len ∧ sz = P.cellsOf e ∧ P.cellsOf e ≠ 0 then some (.arr l sz (lo' + a.toNat) (b - a).toNat) else none
  | _, _ => none := rfl
theorem width_map {α : Type} {n : Nat} {e : α → PV} (he : ∀ x, (e x).cells.length = n) (xs : List α) : widthB n (xs.map e) = true := by
  unfold widthB; rw [List.all_map, List.all_eq_true]; intro x _; simp [he]
theorem opVal_slice (t : TypeId) (x : Operand) (lo hi mx : Option Operand) : opVal P s (.slice t x lo hi mx) = pvSlice P s t (evo s x) lo hi mx := rfl
theorem opVal_len (x : Operand) (t : TypeId) (ts : Array TypeId) : opVal P s (.call ⟨.builtin .len, #[x], #[t]⟩) = match P.underlying t, evo s x with
      | some .string, .str l => some (.int .i64 (l.length : Int))
      | some (.slice _), .list _ xs => some (.int .i64 (xs.length : Int))
      | some (.slice _), .arr _ _ _ len => some (.int .i64 (len : Int))
      | _, _ => none := rfl
theorem opVal_index (t : TypeId) (x ix : Operand) : opVal P s (.index t x ix) = match evo s x, evo s ix with
    | .str l, .int _ n => match P.underlying t with
      | some .string => if 0 ≤ n then (l[n.toNat]?).map fun b => .int .u8 (b.toNat : Int) else none
      | _ => none
    | .agg cs, .int _ n => match P.underlying t with
      | some (.array len e) => if 0 ≤ n ∧ n < len then loadCs P e cs (n.toNat * P.cellsOf e) else none
      | _ => none
    | _, _ => none := rfl
/-- An index in bounds of a slice. -/
theorem opVal_indexAddr (t : TypeId) (x ix : Operand) : opVal P s (.indexAddr t x ix) = match evo s ix with
    | .int _ n => match P.underlying t, evo s x with
      | some (.slice e), .list _ xs => if 0 ≤ n ∧ n < xs.length then (xs[n.toNat]?).bind fun x => if x.cells.length = P.cellsOf e ∧ P.cellsOf e ≠ 0 then some (.cptr x.cells) else none else none
      | some (.slice e), .arr l sz lo len => if 0 ≤ n ∧ n < len ∧ sz = P.cellsOf e ∧ P.cellsOf e ≠ 0 then some (.ref l sz (lo + n.toNat) 0) else none
      | some (.array len e), .ref l sz i off => if 0 ≤ n ∧ n < len ∧ P.cellsOf e ≠ 0 then some (.ref l sz i (off + n.toNat * P.cellsOf e)) else none
      | some (.array len e), .cptr cs => if 0 ≤ n ∧ n < len ∧ n.toNat * P.cellsOf e ≤ cs.length ∧ P.cellsOf e ≠ 0 then some (.cptr (cs.drop (n.toNat * P.cellsOf e))) else none
      | _, _ => none
    | _ => none := rfl
theorem opVal_buildSlice (t : TypeId) (len : Nat) (parts : Array (Nat × Operand)) : opVal P s (.buildSlice t len parts) = match P.underlying t with
    | some (.slice e) =>
      if parts.toList.map (·.1) = List.range len ∧ (parts.toList.map fun q => evo s q.2).all (fun v => v.isDef && v.cells.length == P.cellsOf e) = true ∧ len * P.cellsOf e ≤ 16777216 ∧ (tzero P e).isSome = true then
        some (.list .full (parts.toList.map fun q => evo s q.2)) else none
    | _ => none := rfl
theorem opVal_iface (t : TypeId) (x : Operand) : opVal P s (.makeInterface t x) = if P.concrete t = true then some (.iface t (evo s x)) else none := rfl
theorem opVal_max (x y : Operand) (ts : Array TypeId) : opVal P s (.call ⟨.builtin .max, #[x, y], ts⟩) = pvMinMax true [evo s x, evo s y] := rfl
theorem opVal_min (x y : Operand) (ts : Array TypeId) : opVal P s (.call ⟨.builtin .min, #[x, y], ts⟩) = pvMinMax false [evo s x, evo s y] := rfl

section
variable {t : TypeId} {k k' : IntKind} {a b : Int} {p q : Bool} {x y : List UInt8} {xs ys : List PV} {op : BinOp}
theorem pv_add : pvBin P .add t (.int k a) (.int k b) = some (.int k (k.wrap (a + b))) := by simp only [pvBin, intBin, if_true]
theorem pv_sub : pvBin P .sub t (.int k a) (.int k b) = some (.int k (k.wrap (a - b))) := by simp only [pvBin, intBin, if_true]
theorem pv_mul : pvBin P .mul t (.int k a) (.int k b) = some (.int k (k.wrap (a * b))) := by simp only [pvBin, intBin, if_true]
theorem pv_quo : pvBin P .quo t (.int k a) (.int k b) = if b = 0 then none else some (.int k (k.wrap (a.tdiv b))) := by simp only [pvBin, intBin, if_true]
theorem pv_rem : pvBin P .rem t (.int k a) (.int k b) = if b = 0 then none else some (.int k (a.tmod b)) := by simp only [pvBin, intBin, if_true]
theorem pv_eql : pvBin P .eql t (.int k a) (.int k b) = some (.bool (decide (a = b))) := by simp only [pvBin, intBin, intCmpB, if_true, Option.map_some, ne_eq]
theorem pv_neq : pvBin P .neq t (.int k a) (.int k b) = some (.bool (decide (¬ a = b))) := by simp only [pvBin, intBin, intCmpB, if_true, Option.map_some, ne_eq]
theorem pv_lss : pvBin P .lss t (.int k a) (.int k b) = some (.bool (decide (a < b))) := by simp only [pvBin, intBin, intCmpB, if_true, Option.map_some, ne_eq]
theorem pv_leq : pvBin P .leq t (.int k a) (.int k b) = some (.bool (decide (a ≤ b))) := by simp only [pvBin, intBin, intCmpB, if_true, Option.map_some, ne_eq]
theorem pv_gtr : pvBin P .gtr t (.int k a) (.int k b) = some (.bool (decide (b < a))) := by simp only [pvBin, intBin, intCmpB, if_true, Option.map_some, ne_eq]
theorem pv_geq : pvBin P .geq t (.int k a) (.int k b) = some (.bool (decide (b ≤ a))) := by simp only [pvBin, intBin, intCmpB, if_true, Option.map_some, ne_eq]
theorem pv_shl : pvBin P .shl t (.int k a) (.int k' b) = if b < 0 then none else some (.int k (k.wrap (a * 2 ^ (min b.toNat k.bits)))) := rfl
theorem pv_shr : pvBin P .shr t (.int k a) (.int k' b) = if b < 0 then none else some (.int k (a.fdiv (2 ^ (min b.toNat k.bits)))) := rfl
theorem pv_str : pvBin P op t (.str x) (.str y) = strCmp op x y := rfl
theorem pv_boolE : P.underlying t = some .bool → pvBin P .eql t (.bool p) (.bool q) = some (.bool (p == q)) := fun h => by simp only [pvBin, h]
theorem pv_boolN : P.underlying t = some .bool → pvBin P .neq t (.bool p) (.bool q) = some (.bool (!(p == q))) := fun h => by simp only [pvBin, h]
theorem pv_agg : pvBin P op t (.agg xs) (.agg ys) = match flatEq P t with
    | some ks => if xs.map PV.ck = ks.map some ∧ ys.map PV.ck = ks.map some then
        match op with
        | .eql => (cellsEq xs ys).map fun b => .bool b
        | .neq => (cellsEq xs ys).map fun b => .bool (!b)
        | _ => none
      else none
    | none => none := rfl
end
attribute [go_sem] pv_add pv_sub pv_mul pv_quo pv_rem pv_eql pv_neq pv_lss pv_leq pv_gtr pv_geq pv_shl pv_shr pv_str pv_boolE pv_boolN pv_agg
/-! ### Calls, ends -/
section
variable {ops : Array Oper} {K : St → Prop} {rest : List Oper} {dst : Option Tmp} {ty : TypeId} {pos : String} {af : Array Edge}
theorem fresh_ne {H : Hp} {l : Lab} (h : H l = none) (l' : Lab) (hs : (H l').isSome = true) : (l' = l) = False ∧ (l = l') = False := by
  have : l' ≠ l := fun e => by rw [e, h] at hs; cases hs
  exact ⟨eq_false this, eq_false (fun e => this e.symm)⟩
theorem t_box {t : TypeId} {x : Operand} {v : PV} {cs : List PV} (hx : evo s x = v) (hd : v.isDef = true) (hv : v.cells = cs) (h : Tops P ops rest (s.put dst (.cptr cs)) K) : Tops P ops (⟨dst, .box t x, ty, pos, af, none⟩ :: rest) s K :=
  t_eff rfl ⟨by rw [hx]; exact hd, .inl (by rw [hx, hv]; exact h)⟩
theorem t_alloc {t : TypeId} {z : PV} {n : Nat} (hz : tzero P t = some z) (hd : z.isDef = true) (hn : z.cells.length = n) (h : ∀ l, s.H l = none → (∀ l', (s.H l').isSome = true → (l' = l) = False ∧ (l = l') = False) → Tops P ops rest ((St.mk s.env (upd s.H l (some (.row true n [z])))).put dst (.ref l n 0 0)) K) : Tops P ops (⟨dst, .alloc t, ty, pos, af, none⟩ :: rest) s K :=
  t_eff rfl ⟨z, hz, hd, fun l hl => by rw [hn]; exact h l hl (fresh_ne hl)⟩
theorem t_boxL {t : TypeId} {x : Operand} {v : PV} {n : Nat} (hx : evo s x = v) (hd : v.isDef = true) (hn : v.cells.length = n) (h : ∀ l, s.H l = none → (∀ l', (s.H l').isSome = true → (l' = l) = False ∧ (l = l') = False) → Tops P ops rest ((St.mk s.env (upd s.H l (some (.row true n [v])))).put dst (.ref l n 0 0)) K) : Tops P ops (⟨dst, .box t x, ty, pos, af, none⟩ :: rest) s K :=
  t_eff rfl ⟨by rw [hx]; exact hd, .inr fun l hl => by rw [hx, hn]; exact h l hl (fresh_ne hl)⟩
theorem t_store {t : TypeId} {a x : Operand} {l : Lab} {sz i off : Nat} {xs xs' : List PV} {e v : PV} (ha : evo s a = .ref l sz i off) (hr : ownRow s.H l sz = some xs) (hi : xs[i]? = some e) (hx : evo s x = v)
    (hd : (v.isDef && v.cells.all PV.isCell && v.cells.length == P.cellsOf t && P.cellsOf t != 0 && decide (off + P.cellsOf t ≤ sz) && (e.isAgg || !v.isAgg)) = true) (hs : xs.set i (setC e off v) = xs')
    (h : Tops P ops rest ((St.mk s.env (upd s.H l (some (.row true sz xs')))).put dst (.tup [])) K) : Tops P ops (⟨dst, .store t a x, ty, pos, af, none⟩ :: rest) s K := by
  simp only [Bool.and_eq_true, beq_iff_eq, bne_iff_ne, decide_eq_true_eq, Bool.or_eq_true, Bool.not_eq_true'] at hd
  obtain ⟨⟨⟨⟨⟨h1, h2⟩, h3⟩, h4⟩, h5⟩, h6⟩ := hd
  refine t_eff rfl ⟨rfl, l, sz, i, off, xs, e, ha, hr, hi, ?_⟩
  rw [hx]
  exact ⟨h1, h2, h3, h4, h5, h6, by rw [hs]; exact h⟩
theorem t_callS {g : Operand} {args : Array Operand} {ts : Array TypeId} {f : Nat} {caps as as' : List PV} {r : PV} (hg : evo s g = .fn f caps) (ha : args.toList.map (evo s) ++ caps = as)
    (hn : as.mapM (norm false (restr [] s.H) 8) = some as') (hp : PPure P f as' r) (h : Tops P ops rest (s.put dst r) K) : Tops P ops (⟨dst, .call ⟨.value g, args, ts⟩, ty, pos, af, none⟩ :: rest) s K := by
  refine t_call f caps hg ?_
  rw [ha]
  refine callok_frz false 8 [] as' hn r hp ?_
  rw [frz_nil]; exact h
theorem t_callO {g : Operand} {args : Array Operand} {ts : Array TypeId} {f : Nat} {caps as as' : List PV} {r : PV} (hg : evo s g = .fn f caps) (ha : args.toList.map (evo s) ++ caps = as)
    (hn : as.mapM (norm false s.H 8) = some as') (hp : PPure P f as' r) (hs : scalarB r = true) (h : Tops P ops rest (s.put dst r) K) : Tops P ops (⟨dst, .call ⟨.value g, args, ts⟩, ty, pos, af, none⟩ :: rest) s K := by
  refine t_call f caps hg ?_
  rw [ha]
  exact callok_own false 8 as' hn r hs hp h
theorem t_gcallS {g : Operand} {args : Array Operand} {ts : Array TypeId} {j : Nat} {want : Bool} {d : Tmp} {b : Bool} {f : Nat} {caps as : List PV} {r : PV} (hd : (ops[j]?).bind (·.dst) = some d) (hb : s.env d = .bool b)
    (hg : evo s g = .fn f caps) (ha : b = want → args.toList.map (evo s) ++ caps = as) (hc : as.all (closedB false) = true) (hp : b = want → PPure P f as r) (h : Tops P ops rest (s.put dst (if b = want then r else .tup [])) K) :
    Tops P ops (⟨dst, .call ⟨.value g, args, ts⟩, ty, pos, af, some (j, want)⟩ :: rest) s K :=
  t_gcall b f caps r hd hb hg (fun h => by rw [ha h]; exact ⟨false, hc, hp h⟩) h
/-- A guard on an operation that is itself under one. -/
theorem t_gval2 {op : Op} {j : Nat} {want : Bool} {d : Tmp} {c w b : Bool} {v : PV} (hd : (ops[j]?).bind (·.dst) = some d) (hb : s.env d = if c = w then .bool b else .tup []) (he : isEff op = false) (hc : ∀ g args ts, op ≠ .call ⟨.value g, args, ts⟩)
    (hv : c = w → b = want → opVal P s op = some v) (h : Tops P ops rest (s.put dst (if c = w then (if b = want then v else .tup []) else .tup [])) K) :
    Tops P ops (⟨dst, op, ty, pos, af, some (j, want)⟩ :: rest) s K := by
  by_cases hw : c = w
  · rw [if_pos hw] at hb h
    exact t_gval b v hd hb he hc (hv hw) h
  · rw [if_neg hw] at hb h
    exact t_gskip hd hb h
theorem t_gcall2 {g : Operand} {args : Array Operand} {ts : Array TypeId} {j : Nat} {want : Bool} {d : Tmp} {c w b : Bool} {f : Nat} {caps as : List PV} {r : PV} (hd : (ops[j]?).bind (·.dst) = some d) (hb : s.env d = if c = w then .bool b else .tup [])
    (hg : evo s g = .fn f caps) (ha : c = w → b = want → args.toList.map (evo s) ++ caps = as) (hc : as.all (closedB false) = true) (hp : c = w → b = want → PPure P f as r)
    (h : Tops P ops rest (s.put dst (if c = w then (if b = want then r else .tup []) else .tup [])) K) :
    Tops P ops (⟨dst, .call ⟨.value g, args, ts⟩, ty, pos, af, some (j, want)⟩ :: rest) s K := by
  by_cases hw : c = w
  · rw [if_pos hw] at hb h
    exact t_gcallS hd hb hg (ha hw) hc (hp hw) h
  · rw [if_neg hw] at hb h
    exact t_gskip hd hb h
section
variable {Hr : Hp} {fl : List Bool}
theorem m_gskip {op : Op} {j : Nat} {want : Bool} {d : Tmp} (hf : fl.headD false = false) (hd : (ops[j]?).bind (·.dst) = some d) (hb : s.env d = .tup []) (h : TopsDm P ops rest fl.tail Hr (s.put dst (.tup [])) K) :
    TopsDm P ops (⟨dst, op, ty, pos, af, some (j, want)⟩ :: rest) fl Hr s K := by
  refine m_false hf ?_
  show Tguard _ _ _ _ _
  unfold Tguard
  simp only [hd, hb]
  exact h
theorem m_callS {g : Operand} {args : Array Operand} {ts : Array TypeId} {f : Nat} {caps as as' : List PV} {r : PV} (hf : fl.headD false = false) (hg : evo s g = .fn f caps) (ha : args.toList.map (evo s) ++ caps = as)
    (hn : as.mapM (norm false (restr [] Hr) 8) = some as') (hp : PPure P f as' r) (h : TopsDm P ops rest fl.tail Hr (s.put dst r) K) : TopsDm P ops (⟨dst, .call ⟨.value g, args, ts⟩, ty, pos, af, none⟩ :: rest) fl Hr s K := by
  refine m_call f caps hf hg ?_
  rw [ha]
  exact .inr ⟨false, 8, as', r, hn, hp, h⟩
theorem m_gcallS {g : Operand} {args : Array Operand} {ts : Array TypeId} {j : Nat} {want : Bool} {d : Tmp} {b : Bool} {f : Nat} {caps as : List PV} {r : PV} (hf : fl.headD false = false) (hd : (ops[j]?).bind (·.dst) = some d) (hb : s.env d = .bool b)
    (hg : evo s g = .fn f caps) (ha : b = want → args.toList.map (evo s) ++ caps = as) (hc : as.all (closedB false) = true) (hp : b = want → PPure P f as r) (h : TopsDm P ops rest fl.tail Hr (s.put dst (if b = want then r else .tup [])) K) :
    TopsDm P ops (⟨dst, .call ⟨.value g, args, ts⟩, ty, pos, af, some (j, want)⟩ :: rest) fl Hr s K :=
  m_gcall b f caps r hf hd hb hg (fun h => by rw [ha h]; exact ⟨false, hc, hp h⟩) h
theorem m_gval2 {op : Op} {j : Nat} {want : Bool} {d : Tmp} {c w b : Bool} {v : PV} (hf : fl.headD false = false) (hd : (ops[j]?).bind (·.dst) = some d) (hb : s.env d = if c = w then .bool b else .tup []) (he : isEff op = false) (hc : ∀ g args ts, op ≠ .call ⟨.value g, args, ts⟩)
    (hv : c = w → b = want → opVal P { s with H := Hr } op = some v) (h : TopsDm P ops rest fl.tail Hr (s.put dst (if c = w then (if b = want then v else .tup []) else .tup [])) K) :
    TopsDm P ops (⟨dst, op, ty, pos, af, some (j, want)⟩ :: rest) fl Hr s K := by
  by_cases hw : c = w
  · rw [if_pos hw] at hb h
    exact m_gval b v hf hd hb he hc (hv hw) h
  · rw [if_neg hw] at hb h
    exact m_gskip hf hd hb h
theorem m_gcall2 {g : Operand} {args : Array Operand} {ts : Array TypeId} {j : Nat} {want : Bool} {d : Tmp} {c w b : Bool} {f : Nat} {caps as : List PV} {r : PV} (hf : fl.headD false = false) (hd : (ops[j]?).bind (·.dst) = some d) (hb : s.env d = if c = w then .bool b else .tup [])
    (hg : evo s g = .fn f caps) (ha : c = w → b = want → args.toList.map (evo s) ++ caps = as) (hc : as.all (closedB false) = true) (hp : c = w → b = want → PPure P f as r)
    (h : TopsDm P ops rest fl.tail Hr (s.put dst (if c = w then (if b = want then r else .tup []) else .tup [])) K) :
    TopsDm P ops (⟨dst, .call ⟨.value g, args, ts⟩, ty, pos, af, some (j, want)⟩ :: rest) fl Hr s K := by
  by_cases hw : c = w
  · rw [if_pos hw] at hb h
    exact m_gcallS hf hd hb hg (ha hw) hc (hp hw) h
  · rw [if_neg hw] at hb h
    exact m_gskip hf hd hb h
end
end
theorem pend {fn : Func} {r v : PV} {rs : Array ResultVar} (hr : fn.results = rs) (hv : resVal P rs s = some v) (hn : norm false s.H 8 v = some r) : PureEnd P fn r .ret s :=
  ⟨.inr rfl, v, false, 8, by rw [hr]; exact hv, hn⟩
theorem pendN {fn : Func} {r v : PV} {rs : Array ResultVar} (hr : fn.results = rs) (hv : resVal P rs s = some v) (hn : norm false s.H 8 v = some r) : PureEnd P fn r .normal s :=
  ⟨.inl rfl, v, false, 8, by rw [hr]; exact hv, hn⟩
theorem norm8 (k : Bool) (H : Hp) (v : PV) : norm k H 8 v = if closedB k v = true then some v else normStep k H (norm k H 7) v := rfl
theorem norm7 (k : Bool) (H : Hp) (v : PV) : norm k H 7 v = if closedB k v = true then some v else normStep k H (norm k H 6) v := rfl
theorem norm6 (k : Bool) (H : Hp) (v : PV) : norm k H 6 v = if closedB k v = true then some v else normStep k H (norm k H 5) v := rfl
theorem norm5 (k : Bool) (H : Hp) (v : PV) : norm k H 5 v = if closedB k v = true then some v else normStep k H (norm k H 4) v := rfl
theorem norm4 (k : Bool) (H : Hp) (v : PV) : norm k H 4 v = if closedB k v = true then some v else normStep k H (norm k H 3) v := rfl
end

theorem lk1 : (LK.full == LK.any) = false := rfl
theorem lk2 : (LK.nil == LK.any) = false := rfl
theorem lk3 : (LK.any == LK.any) = true := rfl
attribute [go_sem] lk1 lk2 lk3
theorem add_small {n : Nat} (h : n < 4611686018427387904) : IntKind.i64.wrap ((n : Int) + 1) = ((n + 1 : Nat) : Int) := by rw [IntKind.wrap_i64]; omega

attribute [go_sem] opVal_build pvConvB pvSlice_eq opVal_move opVal_assign opVal_pick opVal_binOp opVal_unOp opVal_convert opVal_extract opVal_func opVal_load opVal_slice opVal_len opVal_index opVal_indexAddr opVal_buildSlice opVal_iface opVal_max opVal_min loadCs_kind opVal_field opVal_fieldAddr norm8 norm7 norm6 norm5 norm4 normStep placeT
end Go.Proofs.Ytloecggdboingaa
namespace Go.Proofs.Ytloecggdboingaa
open Go.RowKit
set_option linter.unusedVariables false
set_option linter.unusedSimpArgs false

def cellsB (n : Nat) (ys : List PV) : Bool := ys.all fun v => v.cells.length == n && v.cells.all PV.isCell
theorem cells_map {α : Type} {n : Nat} {e : α → PV} (he : ∀ x, ((e x).cells.length == n && (e x).cells.all PV.isCell) = true) (xs : List α) : cellsB n (xs.map e) = true := by
  unfold cellsB; rw [List.all_map, List.all_eq_true]; intro x _; exact he x
theorem cellsB_nil (n : Nat) : cellsB n [] = true := rfl
theorem cellsB_cons (n : Nat) (v : PV) (vs : List PV) : cellsB n (v :: vs) = (v.cells.length == n && v.cells.all PV.isCell && cellsB n vs) := rfl
attribute [go_sem] cellsB_nil cellsB_cons
theorem cellsB_spec {n : Nat} {ys : List PV} (h : cellsB n ys = true) : ∀ v ∈ ys, v.cells.length = n ∧ v.cells.all PV.isCell = true := by
  intro v hv
  have := List.all_eq_true.1 h v hv
  simpa using this
theorem widthB_spec {n : Nat} {ys : List PV} (h : widthB n ys = true) : ∀ v ∈ ys, v.cells.length = n := by
  intro v hv
  have := List.all_eq_true.1 h v hv
  simpa using this
/-- The closed facts of an append to a slice of e. -/
def appB (P : Program) (t0 t1 e : TypeId) : Bool :=
  (match P.underlying t0 with
    | some (.slice e') => e' == e
    | _ => false) && srcT P t1 && ((tzero P e).map (fun z => z.cells.length) == some (P.cellsOf e)) && decide (0 < P.cellsOf e) && decide (0 < P.bytesOf e)
theorem appB_spec {P : Program} {t0 t1 e : TypeId} (h : appB P t0 t1 e = true) :
    P.underlying t0 = some (.slice e) ∧ srcT P t1 = true ∧ (tzero P e).map (fun z => z.cells.length) = some (P.cellsOf e) ∧ 0 < P.cellsOf e ∧ 0 < P.bytesOf e := by
  unfold appB at h
  simp only [Bool.and_eq_true, beq_iff_eq, decide_eq_true_eq] at h
  obtain ⟨⟨⟨⟨h1, h2⟩, h3⟩, h4⟩, h5⟩ := h
  refine ⟨?_, h2, h3, h4, h5⟩
  split at h1
  · rename_i e' h; rw [h]; simp only [beq_iff_eq] at h1; rw [h1]
  · cases h1

section
variable {P : Program} {s : St} {ops : Array Oper} {K : St → Prop} {rest : List Oper} {dst : Option Tmp} {ty : TypeId} {pos : String} {af : Array Edge}
theorem t_append {x y : Operand} {t0 t1 e : TypeId} {k : LK} {xs ys : List PV} {n : Nat} (happ : appB P t0 t1 e = true) (hn : P.cellsOf e = n) (hx : evo s x = .list k xs) (hy : itemsOf s.H (evo s y) = some ys)
    (hk : (k == .any) = false) (hxw : widthB n xs = true) (hw : cellsB n ys = true) (hroom : (xs.length + ys.length) * P.bytesOf e ≤ roomB)
    (h0 : ys = [] → Tops P ops rest (s.put dst (.list k xs)) K)
    (h1 : ys ≠ [] → ∀ l, s.H l = none → (∀ l', (s.H l').isSome = true → (l' = l) = False ∧ (l = l') = False) → Tops P ops rest ((St.mk s.env (upd s.H l (some (.row true n (xs ++ ys))))).put dst (.arr l n 0 (xs.length + ys.length))) K) :
    Tops P ops (⟨dst, .call ⟨.builtin .append, #[x, y], #[t0, t1]⟩, ty, pos, af, none⟩ :: rest) s K := by
  obtain ⟨hu, hsrc, hz, hc, hb⟩ := appB_spec happ
  subst hn
  have hk' : k ≠ .any := fun e => by rw [e] at hk; cases hk
  refine t_eff rfl ⟨t0, t1, x, y, e, rfl, rfl, hu, hsrc, ys, hy, cellsB_spec hw, hz, hc, hb, ?_⟩
  rw [hx]
  refine ⟨hk', widthB_spec hxw, hroom, ?_⟩
  split
  · rename_i h; exact h0 h
  · rename_i h; exact fun l hl => h1 h l hl (fresh_ne hl)
theorem t_appendA {x y : Operand} {t0 t1 e : TypeId} {l : Lab} {len : Nat} {xs ys : List PV} {n : Nat} (happ : appB P t0 t1 e = true) (hn : P.cellsOf e = n) (hx : evo s x = .arr l n 0 len) (hy : itemsOf s.H (evo s y) = some ys)
    (hr : ownRow s.H l n = some xs) (hlen : len = xs.length) (hw : cellsB n ys = true) (hroom : (len + ys.length) * P.bytesOf e ≤ roomB)
    (h1 : ∀ l', (l' = l ∨ s.H l' = none) → Tops P ops rest ((St.mk s.env (upd (upd s.H l none) l' (some (.row true n (xs ++ ys))))).put dst (.arr l' n 0 (len + ys.length))) K) :
    Tops P ops (⟨dst, .call ⟨.builtin .append, #[x, y], #[t0, t1]⟩, ty, pos, af, none⟩ :: rest) s K := by
  obtain ⟨hu, hsrc, hz, hc, hb⟩ := appB_spec happ
  refine t_eff rfl ⟨t0, t1, x, y, e, rfl, rfl, hu, hsrc, ys, hy, fun v hv => by rw [hn]; exact cellsB_spec hw v hv, hz, hc, hb, ?_⟩
  rw [hx]
  exact ⟨rfl, rfl, hn.symm, hroom, xs, hr, hlen, h1⟩

/-- A list that grows: nil, or a row of own memory. -/
def Acc (H : Hp) (v : PV) (n : Nat) (xs : List PV) : Prop := (xs = [] ∧ ∃ k, (k == LK.any) = false ∧ v = .list k []) ∨ ∃ l, v = .arr l n 0 xs.length ∧ H l = some (.row true n xs)
theorem Acc.nil (H : Hp) (n : Nat) : Acc H (.list .nil []) n [] := .inl ⟨rfl, .nil, rfl, rfl⟩
theorem t_appendG {x y : Operand} {t0 t1 e : TypeId} {v : PV} {xs ys : List PV} {n : Nat} (happ : appB P t0 t1 e = true) (hn : P.cellsOf e = n) (hx : evo s x = v) (hacc : Acc s.H v n xs) (hy : itemsOf s.H (evo s y) = some ys)
    (hne : ys.isEmpty = false) (hw : cellsB n ys = true) (hroom : (xs.length + ys.length) * P.bytesOf e ≤ roomB)
    (h1 : ∀ u H', Acc H' u n (xs ++ ys) → Tops P ops rest ((St.mk s.env H').put dst u) K) :
    Tops P ops (⟨dst, .call ⟨.builtin .append, #[x, y], #[t0, t1]⟩, ty, pos, af, none⟩ :: rest) s K := by
  rcases hacc with ⟨rfl, k, hk, rfl⟩ | ⟨l, rfl, hl⟩
  · refine t_append happ hn hx hy hk rfl hw (by simpa using hroom) (fun h => by rw [h] at hne; cases hne) (fun _ l hl _ => ?_)
    exact h1 _ _ (.inr ⟨l, by simp, by simp⟩)
  · refine t_appendA happ hn hx hy (by unfold ownRow; rw [hl]; simp) rfl hw hroom (fun l' _ => ?_)
    exact h1 _ _ (.inr ⟨l', by simp, by simp⟩)

/-- Drawn regions with a last operation that waits for all others. -/
def lastFl : List Oper → List Bool
  | [] => []
  | [_] => [true]
  | _ :: r => false :: lastFl r
def endsStore : List Oper → Bool
  | [] => false
  | [o] => match o.op with
    | .store .. => true
    | _ => false
  | _ :: r => endsStore r
theorem t_drwL {id : Nat} {l : List Oper} {Q : X → St → Prop} (he : endsStore l = true) (hok : drawOK false l.toArray (lastFl l) = true) (h : TopsDm P l.toArray l (lastFl l) s.H s (Q .normal)) : T P (.region id l.toArray true) s Q := t_draw (lastFl l) hok h
/-- Marks on what writes memory. -/
def effFl (l : List Oper) : List Bool := l.map fun o => match o.op with
  | .store .. => true
  | .call { callee := .builtin .copy, .. } => true
  | _ => false
theorem t_drwE {id : Nat} {l : List Oper} {Q : X → St → Prop} (hok : drawOK false l.toArray (effFl l) = true) (h : TopsDm P l.toArray l (effFl l) s.H s (Q .normal)) : T P (.region id l.toArray true) s Q := t_draw (effFl l) hok h
/-- Copying rows: into own memory. -/
theorem top_copy {o : Oper} {x y : Operand} {t0 t1 e : TypeId} {l : Lab} {n lo len : Nat} {xs ys : List PV} {d : Option Tmp} (ho : o = ⟨d, .call ⟨.builtin .copy, #[x, y], #[t0, t1]⟩, ty, pos, af, none⟩) (happ : appB P t0 t1 e = true) (hn : P.cellsOf e = n) (hx : evo s x = .arr l n lo len) (hr : ownRow s.H l n = some xs)
    (hlen : lo + len ≤ xs.length) (hy : itemsOf s.H (evo s y) = some ys) (hw : cellsB n ys = true)
    (h : K ((St.mk s.env (upd s.H l (some (.row true n (splice xs lo (ys.take len)))))).put d (.int .i64 ((min ys.length len : Nat) : Int)))) : Top P o s K := by
  obtain ⟨hu, hsrc, hz, hc, hb⟩ := appB_spec happ
  subst ho
  unfold Top
  simp only [isEff, if_true]
  exact ⟨rfl, t0, t1, x, y, e, rfl, rfl, hu, hsrc, l, n, lo, len, xs, ys, hx, hr, hn.symm, hlen, hy, fun v hv => cellsB_spec hw v hv, by omega, h⟩
theorem t_copy {x y : Operand} {t0 t1 e : TypeId} {l : Lab} {n lo len : Nat} {xs ys : List PV} (happ : appB P t0 t1 e = true) (hn : P.cellsOf e = n) (hx : evo s x = .arr l n lo len) (hr : ownRow s.H l n = some xs)
    (hlen : lo + len ≤ xs.length) (hy : itemsOf s.H (evo s y) = some ys) (hw : cellsB n ys = true)
    (h : Tops P ops rest ((St.mk s.env (upd s.H l (some (.row true n (splice xs lo (ys.take len)))))).put dst (.int .i64 ((min ys.length len : Nat) : Int))) K) :
    Tops P ops (⟨dst, .call ⟨.builtin .copy, #[x, y], #[t0, t1]⟩, ty, pos, af, none⟩ :: rest) s K := by
  show Tguard _ _ _ _ _
  unfold Tguard
  exact top_copy rfl happ hn hx hr hlen hy hw h
theorem t_makeSlice {t e : TypeId} {x y : Operand} {z : PV} {n : Nat} {k k' : IntKind} {a : Int} (hu : P.underlying t = some (.slice e)) (hn : P.cellsOf e = n) (hx : evo s x = .int k a) (hy : evo s y = .int k' a) (hz : tzero P e = some z) (hd : z.isDef = true) (hl : z.cells.length = n)
    (h0 : 0 ≤ a) (hroom : a.toNat * P.bytesOf e ≤ roomB) (h63 : a ≤ 9223372036854775807)
    (h : ∀ l, s.H l = none → (∀ l', (s.H l').isSome = true → (l' = l) = False ∧ (l = l') = False) → Tops P ops rest ((St.mk s.env (upd s.H l (some (.row true n (List.replicate a.toNat z))))).put dst (.arr l n 0 a.toNat)) K) :
    Tops P ops (⟨dst, .makeSlice t x y, ty, pos, af, none⟩ :: rest) s K :=
  t_eff rfl ⟨e, k, k', a, z, hu, hx, hy, hz, hd, by rw [hl, hn], h0, hroom, h63, fun l hl' => by rw [hl]; exact h l hl' (fresh_ne hl')⟩
section
variable {Hr : Hp} {fl : List Bool}
theorem m_copy {x y : Operand} {t0 t1 e : TypeId} {l : Lab} {n lo len : Nat} {xs ys : List PV} (hf : fl.headD false = true) (happ : appB P t0 t1 e = true) (hn : P.cellsOf e = n) (hx : evo s x = .arr l n lo len) (hr : ownRow s.H l n = some xs)
    (hlen : lo + len ≤ xs.length) (hy : itemsOf s.H (evo s y) = some ys) (hw : cellsB n ys = true)
    (h : TopsDm P ops rest fl.tail (upd s.H l (some (.row true n (splice xs lo (ys.take len))))) ((St.mk s.env (upd s.H l (some (.row true n (splice xs lo (ys.take len)))))).put dst (.int .i64 ((min ys.length len : Nat) : Int))) K) :
    TopsDm P ops (⟨dst, .call ⟨.builtin .copy, #[x, y], #[t0, t1]⟩, ty, pos, af, none⟩ :: rest) fl Hr s K := by
  refine m_true hf ?_
  show Tguard _ _ _ _ _
  unfold Tguard
  simp only
  refine top_copy rfl happ hn hx hr hlen hy hw ?_
  rw [put_H']
  exact h
theorem m_store {t : TypeId} {a x : Operand} {l : Lab} {sz i off : Nat} {xs xs' : List PV} {e v : PV} (hf : fl.headD false = true) (ha : evo s a = .ref l sz i off) (hr : ownRow s.H l sz = some xs) (hi : xs[i]? = some e) (hx : evo s x = v)
    (hd : (v.isDef && v.cells.all PV.isCell && v.cells.length == P.cellsOf t && P.cellsOf t != 0 && decide (off + P.cellsOf t ≤ sz) && (e.isAgg || !v.isAgg)) = true) (hs : xs.set i (setC e off v) = xs')
    (h : TopsDm P ops rest fl.tail (upd s.H l (some (.row true sz xs'))) ((St.mk s.env (upd s.H l (some (.row true sz xs')))).put dst (.tup [])) K) : TopsDm P ops (⟨dst, .store t a x, ty, pos, af, none⟩ :: rest) fl Hr s K := by
  refine m_true hf ?_
  show Tguard _ _ _ _ _
  unfold Tguard
  simp only [Bool.and_eq_true, beq_iff_eq, bne_iff_ne, decide_eq_true_eq, Bool.or_eq_true, Bool.not_eq_true'] at hd
  obtain ⟨⟨⟨⟨⟨h1, h2⟩, h3⟩, h4⟩, h5⟩, h6⟩ := hd
  simp only
  unfold Top
  simp only [isEff, if_true]
  refine ⟨rfl, l, sz, i, off, xs, e, ha, hr, hi, ?_⟩
  rw [hx]
  refine ⟨h1, h2, h3, h4, h5, h6, ?_⟩
  rw [hs]
  simp only [put_H']
  exact h
theorem m_append {x y : Operand} {t0 t1 e : TypeId} {k : LK} {xs ys : List PV} {n : Nat} (hf : fl.headD false = false) (happ : appB P t0 t1 e = true) (hn : P.cellsOf e = n) (hx : evo s x = .list k xs) (hy : itemsOf Hr (evo s y) = some ys)
    (hk : (k == .any) = false) (hxw : widthB n xs = true) (hw : cellsB n ys = true) (hroom : (xs.length + ys.length) * P.bytesOf e ≤ roomB)
    (h0 : ys = [] → TopsDm P ops rest fl.tail Hr (s.put dst (.list k xs)) K)
    (h1 : ys ≠ [] → ∀ l, s.H l = none → (∀ l', (s.H l').isSome = true → (l' = l) = False ∧ (l = l') = False) → TopsDm P ops rest fl.tail Hr ((St.mk s.env (upd s.H l (some (.row true n (xs ++ ys))))).put dst (.arr l n 0 (xs.length + ys.length))) K) :
    TopsDm P ops (⟨dst, .call ⟨.builtin .append, #[x, y], #[t0, t1]⟩, ty, pos, af, none⟩ :: rest) fl Hr s K := by
  obtain ⟨hu, hsrc, hz, hc, hb⟩ := appB_spec happ
  subst hn
  have hk' : k ≠ .any := fun e => by rw [e] at hk; cases hk
  refine m_false hf ?_
  show Tguard _ _ _ _ _
  unfold Tguard
  simp only
  unfold TopQ
  refine ⟨t0, t1, x, y, e, rfl, rfl, hu, hsrc, ys, hy, cellsB_spec hw, hz, hc, hb, k, xs, hx, hk', widthB_spec hxw, hroom, ?_⟩
  split
  · rename_i h; exact h0 h
  · rename_i h; exact fun l hl => h1 h l hl (fresh_ne hl)
end
end
attribute [go_sem] List.map_cons List.map_nil List.nil_append List.append_nil List.cons_append List.length_cons List.length_nil List.getElem?_cons_zero List.getElem?_cons_succ List.getElem?_nil List.take_succ_cons List.take_zero List.take_nil List.drop_succ_cons List.drop_zero List.drop_nil
attribute [go_sem] List.all_cons List.all_nil List.mapM_cons List.mapM_nil Option.bind_some Option.bind_none Option.map_some Option.map_none Option.bind_eq_bind Option.pure_def Bool.and_true Bool.true_and Bool.and_false Bool.false_and Bool.or_false Bool.false_or
attribute [go_sem] Bool.or_true Bool.true_or Bool.not_not Bool.not_true Bool.not_false if_true if_false and_self and_true true_and ne_eq not_false_eq_true not_true_eq_false implies_true beq_self_eq_true List.getElem?_map
attribute [go_sem] List.length_map List.getElem?_toArray List.size_toArray Nat.zero_le Nat.le_refl Nat.add_zero Nat.zero_add List.isEmpty_nil Int.toNat_natCast decide_true decide_false Bool.false_eq_true Bool.true_eq_false eq_self Int.natCast_nonneg List.all_map
attribute [go_sem] Option.isNone_none Option.isSome_some Option.isSome_none List.range_succ List.range_zero List.take_length List.length_replicate List.set_cons_zero List.set_cons_succ bne_self_eq_false Bool.or_self Bool.and_self
attribute [go_sem] Nat.reduceEqDiff Nat.reduceAdd Nat.reduceMul Nat.reduceLeDiff Nat.reduceLT Nat.reduceBEq Int.reduceNeg reduceIte reduceCtorEq Int.reduceLT Int.reduceLE Int.reduceToNat Int.reduceEq Nat.reduceBNe Nat.reduceSub
attribute [go_sem ←] List.map_take List.map_drop
end Go.Proofs.Ytloecggdboingaa
namespace Go.Proofs.Ytloecggdboingaa
open Go.RowKit
set_option linter.unusedVariables false
set_option linter.unusedSimpArgs false

/-- Does the code write slot t? -/
def wrs (t : Nat) : Code → Bool
  | .region _ ops _ => ops.toList.any fun o => o.dst == some t
  | .seq a b => wrs t a || wrs t b
  | .cond _ a b => wrs t a || wrs t b
  | .block _ c => wrs t c
  | .loop c => wrs t c
  | _ => false

section
variable {P : Program}
theorem topQ_frame {o : Oper} {Hr : Hp} {s : St} {K : St → Prop} (h : TopQ P o Hr s K) : TopQ P o Hr s (fun s' => K s' ∧ Fra o.dst s s') := by
  unfold TopQ at h ⊢
  split at h
  · split at h
    · exact h.mono fun r h => ⟨h, fun t ht => put_off' ht⟩
    · exact h
  · obtain ⟨z, h1, h2, h⟩ := h
    exact ⟨z, h1, h2, fun l hl => ⟨h l hl, fun t ht => put_off ht⟩⟩
  · exact ⟨h.1, fun l hl => ⟨h.2 l hl, fun t ht => put_off ht⟩⟩
  · obtain ⟨t0, t1, x, y, e, h1, h2, h3, h4, ys, h5, h6, h7, h8, h9, k, xs, h10, h11, h12, h13, h⟩ := h
    refine ⟨t0, t1, x, y, e, h1, h2, h3, h4, ys, h5, h6, h7, h8, h9, k, xs, h10, h11, h12, h13, ?_⟩
    split at h
    · rename_i hy; rw [if_pos hy]; exact ⟨h, fun t ht => put_off' ht⟩
    · rename_i hy; rw [if_neg hy]; exact fun l hl => ⟨h l hl, fun t ht => put_off ht⟩
  · obtain ⟨h0, v, hv, h⟩ := h
    exact ⟨h0, v, hv, h, fun t ht => put_off' ht⟩

theorem topQ_mono {o : Oper} {Hr : Hp} {s : St} {K K' : St → Prop} (h : TopQ P o Hr s K) (hk : ∀ s, K s → K' s) : TopQ P o Hr s K' := by
  unfold TopQ at h ⊢
  split at h
  · split at h
    · exact h.mono fun r h => hk _ h
    · exact h
  · obtain ⟨z, h1, h2, h⟩ := h
    exact ⟨z, h1, h2, fun l hl => hk _ (h l hl)⟩
  · exact ⟨h.1, fun l hl => hk _ (h.2 l hl)⟩
  · obtain ⟨t0, t1, x, y, e, h1, h2, h3, h4, ys, h5, h6, h7, h8, h9, k, xs, h10, h11, h12, h13, h⟩ := h
    refine ⟨t0, t1, x, y, e, h1, h2, h3, h4, ys, h5, h6, h7, h8, h9, k, xs, h10, h11, h12, h13, ?_⟩
    split at h
    · rename_i hy; rw [if_pos hy]; exact hk _ h
    · rename_i hy; rw [if_neg hy]; exact fun l hl => hk _ (h l hl)
  · obtain ⟨h0, v, hv, h⟩ := h
    exact ⟨h0, v, hv, hk _ h⟩

def FraL (l : List Oper) (s s' : St) : Prop := ∀ t, (l.any fun o => o.dst == some t) = false → s'.env t = s.env t
theorem fra_cons {o : Oper} {l : List Oper} {s s1 s2 : St} (h1 : Fra o.dst s s1) (h2 : FraL l s1 s2) : FraL (o :: l) s s2 := by
  intro t ht
  simp only [List.any_cons, Bool.or_eq_false_iff] at ht
  rw [h2 t ht.2, h1 t (by simpa using ht.1)]
theorem fra_put {o : Oper} {s : St} {v : PV} : Fra o.dst s (s.put o.dst v) := fun t ht => put_off' ht

theorem tops_frame {ops : Array Oper} {K : St → Prop} : ∀ (l : List Oper) (s : St), Tops P ops l s K → Tops P ops l s (fun s' => K s' ∧ FraL l s s')
  | [], s, h => ⟨h, fun _ _ => rfl⟩
  | o :: rest, s, h => guard_mono h
      (fun h => top_mono (top_frame h) fun s' h => tops_mono (fun s2 h2 => ⟨h2.1, fra_cons h.2 h2.2⟩) rest s' (tops_frame rest s' h.1))
      (fun h => tops_mono (fun s2 h2 => ⟨h2.1, fra_cons fra_put h2.2⟩) rest _ (tops_frame rest _ h))

theorem topsD_frame {ops : Array Oper} {K : St → Prop} : ∀ (l : List (Oper × Bool)) (Hr : Hp) (s : St), TopsD P ops l Hr s K → TopsD P ops l Hr s (fun s' => K s' ∧ FraL (l.map (·.1)) s s')
  | [], Hr, s, h => ⟨h, fun _ _ => rfl⟩
  | (o, true) :: rest, Hr, s, h => guard_mono h
      (fun h => top_mono (top_frame h) fun s' h => topsD_mono (fun s2 h2 => ⟨h2.1, fra_cons h.2 h2.2⟩) rest _ s' (topsD_frame rest _ s' h.1))
      (fun h => topsD_mono (fun s2 h2 => ⟨h2.1, fra_cons fra_put h2.2⟩) rest _ _ (topsD_frame rest _ _ h))
  | (o, false) :: rest, Hr, s, h => guard_mono h
      (fun h => topQ_mono (topQ_frame h) fun s' h => topsD_mono (fun s2 h2 => ⟨h2.1, fra_cons h.2 h2.2⟩) rest _ s' (topsD_frame rest _ s' h.1))
      (fun h => topsD_mono (fun s2 h2 => ⟨h2.1, fra_cons fra_put h2.2⟩) rest _ _ (topsD_frame rest _ _ h))

theorem marked_map : ∀ (l : List Oper) (fl : List Bool), (marked l fl).map (·.1) = l
  | [], _ => rfl
  | o :: l, fl => by simp [marked, marked_map l]

theorem T_frame : ∀ (c : Code) (s : St) (Q : X → St → Prop), T P c s Q → T P c s (fun x s' => Q x s' ∧ ∀ t, wrs t c = false → s'.env t = s.env t) := by
  intro c
  induction c with
  | skip => intro s Q h; exact ⟨h, fun _ _ => rfl⟩
  | region id ops draw =>
    intro s Q h
    cases draw with
    | false => exact tops_mono (fun s' h => ⟨h.1, fun t ht => h.2 t ht⟩) _ _ (tops_frame ops.toList s h)
    | true =>
      obtain ⟨z, fl, hok, h⟩ := h
      refine ⟨z, fl, hok, topsD_mono (fun s' h => ⟨h.1, fun t ht => h.2 t ?_⟩) _ _ _ (topsD_frame _ _ _ h)⟩
      rw [marked_map]; exact ht
  | seq a b iha ihb =>
    intro s Q h
    refine T_mono a s _ _ (fun x s' hx => ?_) (iha s _ h)
    cases x with
    | normal =>
      refine T_mono b s' _ _ (fun x2 s2 h2 => ⟨h2.1, fun t ht => ?_⟩) (ihb s' Q hx.1)
      simp only [wrs, Bool.or_eq_false_iff] at ht
      rw [h2.2 t ht.2, hx.2 t ht.1]
    | exit id => exact ⟨hx.1, fun t ht => hx.2 t (by simp only [wrs, Bool.or_eq_false_iff] at ht; exact ht.1)⟩
    | ret => exact ⟨hx.1, fun t ht => hx.2 t (by simp only [wrs, Bool.or_eq_false_iff] at ht; exact ht.1)⟩
  | cond c a b iha ihb =>
    intro s Q h
    obtain ⟨t, ht, h⟩ := h
    refine ⟨t, ht, ?_⟩
    cases t with
    | true => exact T_mono a s _ _ (fun x s' hx => ⟨hx.1, fun t ht => hx.2 t (by simp only [wrs, Bool.or_eq_false_iff] at ht; exact ht.1)⟩) (iha s Q h)
    | false => exact T_mono b s _ _ (fun x s' hx => ⟨hx.1, fun t ht => hx.2 t (by simp only [wrs, Bool.or_eq_false_iff] at ht; exact ht.2)⟩) (ihb s Q h)
  | block id c ih =>
    intro s Q h
    refine T_mono c s _ _ (fun x s' hx => ?_) (ih s _ h)
    cases x with
    | normal => exact hx
    | exit id' =>
      by_cases e : id' = id
      · simp only [e, if_true] at hx ⊢; exact hx
      · simp only [e, if_false] at hx ⊢; exact hx
    | ret => exact hx
  | loop c ih =>
    intro s Q h
    obtain ⟨k, h⟩ := h
    refine ⟨k, ?_⟩
    induction k generalizing s with
    | zero => exact h
    | succ k ihk =>
      refine T_mono c s _ _ (fun x s' hx => ?_) (ih s _ h)
      cases x with
      | normal =>
        refine iter_mono_Q (T_mono c) (fun x2 s2 h2 => ⟨h2.1, fun t ht => ?_⟩) k s' (ihk s' hx.1)
        rw [h2.2 t ht, hx.2 t ht]
      | exit id => exact hx
      | ret => exact hx
  | exit id => intro s Q h; exact ⟨h, fun _ _ => rfl⟩
  | ret => intro s Q h; exact ⟨h, fun _ _ => rfl⟩
  | rangeFunc f ps as b => intro s Q h; exact h.elim
  | scope b => intro s Q h; exact h.elim
  | label l => intro s Q h; exact h.elim
  | goto l => intro s Q h; exact h.elim
  | refuse why => intro s Q h; exact h.elim
where iter_mono_Q {F : St → (X → St → Prop) → Prop} (hF : ∀ s Q Q', (∀ x s, Q x s → Q' x s) → F s Q → F s Q') {Q Q' : X → St → Prop} (hq : ∀ x s, Q x s → Q' x s) : ∀ (k : Nat) (s : St), iter F k s Q → iter F k s Q'
  | 0, _, h => h
  | k + 1, s, h => by
    refine hF s _ _ (fun x s' hx => ?_) h
    cases x with
    | normal => exact iter_mono_Q hF hq k s' hx
    | exit id => exact hq _ _ hx
    | ret => exact hq _ _ hx

/-- A call that makes or writes own memory. -/
theorem t_callG {ops : Array Oper} {K : St → Prop} {rest : List Oper} {dst : Option Tmp} {ty : TypeId} {pos : String} {af : Array Edge} {s : St} {g : Operand} {args : Array Operand} {ts : Array TypeId} {f : Nat} {caps as : List PV} (hg : evo s g = .fn f caps) (ha : args.toList.map (evo s) ++ caps = as)
    (h : CallsG P f as s.H fun r H' => Tops P ops rest ((St.mk s.env H').put dst r) K) : Tops P ops (⟨dst, .call ⟨.value g, args, ts⟩, ty, pos, af, none⟩ :: rest) s K := by
  refine t_call f caps hg ?_
  rw [ha]
  exact callok_gen h

section
variable {ops : Array Oper} {K : St → Prop} {rest : List Oper} {dst : Option Tmp} {ty : TypeId} {pos : String} {af : Array Edge} {s : St} {Hr : Hp} {fl : List Bool}
theorem t_gcallO {g : Operand} {args : Array Operand} {ts : Array TypeId} {j : Nat} {want : Bool} {d : Tmp} {b : Bool} {f : Nat} {caps as as' : List PV} {r : PV} (hd : (ops[j]?).bind (·.dst) = some d) (hb : s.env d = .bool b)
    (hg : evo s g = .fn f caps) (ha : b = want → args.toList.map (evo s) ++ caps = as) (hn : b = want → as.mapM (norm false s.H 8) = some as') (hp : b = want → PPure P f as' r) (hs : scalarB r = true) (h : Tops P ops rest (s.put dst (if b = want then r else .tup [])) K) :
    Tops P ops (⟨dst, .call ⟨.value g, args, ts⟩, ty, pos, af, some (j, want)⟩ :: rest) s K := by
  show Tguard _ _ _ _ _
  unfold Tguard
  simp only [hd, hb]
  split
  · rename_i hw
    rw [if_pos hw] at h
    unfold Top
    simp only [hg]
    rw [ha hw]
    exact callok_own false 8 as' (hn hw) r hs (hp hw) h
  · rename_i hw
    rw [if_neg hw] at h
    exact h
theorem m_callO {g : Operand} {args : Array Operand} {ts : Array TypeId} {f : Nat} {caps as as' : List PV} {r : PV} (hf : fl.headD false = false) (hg : evo s g = .fn f caps) (ha : args.toList.map (evo s) ++ caps = as)
    (hn : as.mapM (norm false Hr 8) = some as') (hp : PPure P f as' r) (hs : scalarB r = true) (h : TopsDm P ops rest fl.tail Hr (s.put dst r) K) : TopsDm P ops (⟨dst, .call ⟨.value g, args, ts⟩, ty, pos, af, none⟩ :: rest) fl Hr s K := by
  refine m_call f caps hf hg ?_
  rw [ha]
  exact .inl ⟨false, 8, as', r, hn, hs, hp, h⟩
theorem m_gcallO {g : Operand} {args : Array Operand} {ts : Array TypeId} {j : Nat} {want : Bool} {d : Tmp} {b : Bool} {f : Nat} {caps as as' : List PV} {r : PV} (hf : fl.headD false = false) (hd : (ops[j]?).bind (·.dst) = some d) (hb : s.env d = .bool b)
    (hg : evo s g = .fn f caps) (ha : b = want → args.toList.map (evo s) ++ caps = as) (hn : b = want → as.mapM (norm false Hr 8) = some as') (hp : b = want → PPure P f as' r) (hs : scalarB r = true) (h : TopsDm P ops rest fl.tail Hr (s.put dst (if b = want then r else .tup [])) K) :
    TopsDm P ops (⟨dst, .call ⟨.value g, args, ts⟩, ty, pos, af, some (j, want)⟩ :: rest) fl Hr s K := by
  refine m_false hf ?_
  show Tguard _ _ _ _ _
  unfold Tguard
  simp only [hd, hb]
  split
  · rename_i hw
    rw [if_pos hw] at h
    unfold TopQ
    simp only [hg]
    rw [ha hw]
    exact .inl ⟨false, 8, as', r, hn hw, hs, hp hw, h⟩
  · rename_i hw
    rw [if_neg hw] at h
    exact h
theorem m_appendG {x y : Operand} {t0 t1 e : TypeId} {v : PV} {xs ys : List PV} {n : Nat} (hf : fl.headD false = true) (happ : appB P t0 t1 e = true) (hn : P.cellsOf e = n) (hx : evo s x = v) (hacc : Acc s.H v n xs) (hy : itemsOf s.H (evo s y) = some ys)
    (hne : ys.isEmpty = false) (hw : cellsB n ys = true) (hroom : (xs.length + ys.length) * P.bytesOf e ≤ roomB)
    (h1 : ∀ u H', Acc H' u n (xs ++ ys) → TopsDm P ops rest fl.tail H' ((St.mk s.env H').put dst u) K) :
    TopsDm P ops (⟨dst, .call ⟨.builtin .append, #[x, y], #[t0, t1]⟩, ty, pos, af, none⟩ :: rest) fl Hr s K := by
  refine m_true hf ?_
  show Tguard _ _ _ _ _
  unfold Tguard
  simp only
  have := t_appendG (ops := ops) (rest := []) (dst := dst) (ty := ty) (pos := pos) (af := af) (K := fun s' => TopsDm P ops rest fl.tail s'.H s' K) happ hn hx hacc hy hne hw hroom (fun u H' ha => by
    show TopsDm P ops rest fl.tail _ _ K
    have := h1 u H' ha
    rw [put_H']
    exact this)
  exact this
theorem m_alloc {t : TypeId} {z : PV} {n : Nat} (hf : fl.headD false = false) (hz : tzero P t = some z) (hd : z.isDef = true) (hn : z.cells.length = n) (h : ∀ l, s.H l = none → (∀ l', (s.H l').isSome = true → (l' = l) = False ∧ (l = l') = False) → TopsDm P ops rest fl.tail Hr ((St.mk s.env (upd s.H l (some (.row true n [z])))).put dst (.ref l n 0 0)) K) :
    TopsDm P ops (⟨dst, .alloc t, ty, pos, af, none⟩ :: rest) fl Hr s K := by
  refine m_false hf ?_
  show Tguard _ _ _ _ _
  unfold Tguard
  simp only
  unfold TopQ
  exact ⟨z, hz, hd, fun l hl => by rw [hn]; exact h l hl (fresh_ne hl)⟩
theorem m_boxL {t : TypeId} {x : Operand} {v : PV} {n : Nat} (hf : fl.headD false = false) (hx : evo s x = v) (hd : v.isDef = true) (hn : v.cells.length = n) (h : ∀ l, s.H l = none → (∀ l', (s.H l').isSome = true → (l' = l) = False ∧ (l = l') = False) → TopsDm P ops rest fl.tail Hr ((St.mk s.env (upd s.H l (some (.row true n [v])))).put dst (.ref l n 0 0)) K) :
    TopsDm P ops (⟨dst, .box t x, ty, pos, af, none⟩ :: rest) fl Hr s K := by
  refine m_false hf ?_
  show Tguard _ _ _ _ _
  unfold Tguard
  simp only
  unfold TopQ
  exact ⟨by rw [hx]; exact hd, fun l hl => by rw [hx, hn]; exact h l hl (fresh_ne hl)⟩
end

/-- A loop, by what holds at its head, with a measure; slots that it does not write are known at its head. -/
theorem t_loopF {c : Code} {s0 : St} {Q : X → St → Prop} (I : Nat → St → Prop) (k : Nat) (h0 : I k s0) (step : ∀ k s, (∀ t, wrs t c = false → s.env t = s0.env t) → I k s → T P c s (Kinv I k Q)) : T P (.loop c) s0 Q := by
  refine t_loop (fun k s => (∀ t, wrs t c = false → s.env t = s0.env t) ∧ I k s) k ⟨fun _ _ => rfl, h0⟩ ?_
  rintro k s ⟨hf, hi⟩
  refine T_mono c s _ _ (fun x s' hx => ?_) (T_frame c s _ (step k s hf hi))
  cases x with
  | normal =>
    obtain ⟨⟨k', hlt, h'⟩, hfr⟩ := hx
    exact ⟨k', hlt, fun t ht => by rw [hfr t ht, hf t ht], h'⟩
  | exit id => exact hx.1
  | ret => exact hx.1
end
end Go.Proofs.Ytloecggdboingaa
namespace Go.Proofs.Ytloecggdboingaa
open Go.RowKit
set_option linter.unusedVariables false
set_option linter.unusedSimpArgs false

def updO (E : Nat → PV) (d : Option Tmp) (v : PV) : Nat → PV :=
  match d with
  | none => E
  | some d => upd E d v
theorem updO_some (E : Nat → PV) (d : Tmp) (v : PV) (i : Nat) : updO E (some d) v i = if i = d then v else E i := rfl
theorem updO_none (E : Nat → PV) (v : PV) : updO E none v = E := rfl
attribute [go_sem] updO_some updO_none
section
variable {P : Program} {E : Nat → PV} {H : Hp} {ops : Array Oper} {K : St → Prop} {dst : Option Tmp} {ty : TypeId} {pos : String} {af : Array Edge} {Hr : Hp} {fl : List Bool}
section
variable {rest : List Oper}
theorem te_val {op : Op} (v : PV) (he : isEff op = false) (hc : ∀ g args ts, op ≠ .call ⟨.value g, args, ts⟩) (hv : opVal P (St.mk E H) op = some v) (h : Tops P ops rest (St.mk (updO E dst v) H) K) :
    Tops P ops (⟨dst, op, ty, pos, af, none⟩ :: rest) (St.mk E H) K := by
  cases dst <;> exact t_val v he hc hv h
theorem te_callS {g : Operand} {args : Array Operand} {ts : Array TypeId} {f : Nat} {caps as as' : List PV} {r : PV} (hg : evo (St.mk E H) g = .fn f caps) (ha : args.toList.map (evo (St.mk E H)) ++ caps = as) (hn : as.mapM (norm false (restr [] H) 8) = some as') (hp : PPure P f as' r) (h : Tops P ops rest (St.mk (updO E dst r) H) K) : Tops P ops (⟨dst, .call ⟨.value g, args, ts⟩, ty, pos, af, none⟩ :: rest) (St.mk E H) K := by
  cases dst <;> exact t_callS hg ha hn hp h
theorem te_callO {g : Operand} {args : Array Operand} {ts : Array TypeId} {f : Nat} {caps as as' : List PV} {r : PV} (hg : evo (St.mk E H) g = .fn f caps) (ha : args.toList.map (evo (St.mk E H)) ++ caps = as) (hn : as.mapM (norm false H 8) = some as') (hp : PPure P f as' r) (hs : scalarB r = true) (h : Tops P ops rest (St.mk (updO E dst r) H) K) : Tops P ops (⟨dst, .call ⟨.value g, args, ts⟩, ty, pos, af, none⟩ :: rest) (St.mk E H) K := by
  cases dst <;> exact t_callO hg ha hn hp hs h
theorem te_gval {op : Op} {j : Nat} {want : Bool} {d : Tmp} (b : Bool) (v : PV) (hd : (ops[j]?).bind (·.dst) = some d) (hb : E d = .bool b) (he : isEff op = false) (hc : ∀ g args ts, op ≠ .call ⟨.value g, args, ts⟩) (hv : b = want → opVal P (St.mk E H) op = some v) (h : Tops P ops rest (St.mk (updO E dst (if b = want then v else .tup [])) H) K) :
    Tops P ops (⟨dst, op, ty, pos, af, some (j, want)⟩ :: rest) (St.mk E H) K := by
  cases dst <;> exact t_gval b v hd hb he hc hv h
theorem te_gcallS {g : Operand} {args : Array Operand} {ts : Array TypeId} {j : Nat} {want : Bool} {d : Tmp} {b : Bool} {f : Nat} {caps as : List PV} {r : PV} (hd : (ops[j]?).bind (·.dst) = some d) (hb : E d = .bool b) (hg : evo (St.mk E H) g = .fn f caps) (ha : b = want → args.toList.map (evo (St.mk E H)) ++ caps = as) (hc : as.all (closedB false) = true) (hp : b = want → PPure P f as r) (h : Tops P ops rest (St.mk (updO E dst (if b = want then r else .tup [])) H) K) :
    Tops P ops (⟨dst, .call ⟨.value g, args, ts⟩, ty, pos, af, some (j, want)⟩ :: rest) (St.mk E H) K := by
  cases dst <;> exact t_gcallS hd hb hg ha hc hp h
theorem te_gcallO {g : Operand} {args : Array Operand} {ts : Array TypeId} {j : Nat} {want : Bool} {d : Tmp} {b : Bool} {f : Nat} {caps as as' : List PV} {r : PV} (hd : (ops[j]?).bind (·.dst) = some d) (hb : E d = .bool b) (hg : evo (St.mk E H) g = .fn f caps) (ha : b = want → args.toList.map (evo (St.mk E H)) ++ caps = as) (hn : b = want → as.mapM (norm false H 8) = some as') (hp : b = want → PPure P f as' r) (hs : scalarB r = true) (h : Tops P ops rest (St.mk (updO E dst (if b = want then r else .tup [])) H) K) :
    Tops P ops (⟨dst, .call ⟨.value g, args, ts⟩, ty, pos, af, some (j, want)⟩ :: rest) (St.mk E H) K := by
  cases dst <;> exact t_gcallO hd hb hg ha hn hp hs h
theorem te_gno {op : Op} {j : Nat} {want b : Bool} {d : Tmp} (hd : (ops[j]?).bind (·.dst) = some d) (hb : E d = .bool b) (hne : (b == want) = false) (h : Tops P ops rest (St.mk (updO E dst (.tup [])) H) K) :
    Tops P ops (⟨dst, op, ty, pos, af, some (j, want)⟩ :: rest) (St.mk E H) K := by
  cases dst <;> exact t_gno hd hb hne h
theorem te_gskip {op : Op} {j : Nat} {want : Bool} {d : Tmp} (hd : (ops[j]?).bind (·.dst) = some d) (hb : E d = .tup []) (h : Tops P ops rest (St.mk (updO E dst (.tup [])) H) K) :
    Tops P ops (⟨dst, op, ty, pos, af, some (j, want)⟩ :: rest) (St.mk E H) K := by
  cases dst <;> exact t_gskip hd hb h
theorem te_append {x y : Operand} {t0 t1 e : TypeId} {k : LK} {xs ys : List PV} {n : Nat} (happ : appB P t0 t1 e = true) (hn : P.cellsOf e = n) (hx : evo (St.mk E H) x = .list k xs) (hy : itemsOf H (evo (St.mk E H) y) = some ys) (hk : (k == .any) = false) (hxw : widthB n xs = true) (hw : cellsB n ys = true) (hroom : (xs.length + ys.length) * P.bytesOf e ≤ roomB) (h0 : ys = [] → Tops P ops rest (St.mk (updO E dst (.list k xs)) H) K) (h1 : ys ≠ [] → ∀ l, H l = none → (∀ l', (H l').isSome = true → (l' = l) = False ∧ (l = l') = False) → Tops P ops rest (St.mk (updO E dst (.arr l n 0 (xs.length + ys.length))) (upd H l (some (.row true n (xs ++ ys))))) K) :
    Tops P ops (⟨dst, .call ⟨.builtin .append, #[x, y], #[t0, t1]⟩, ty, pos, af, none⟩ :: rest) (St.mk E H) K := by
  cases dst <;> exact t_append happ hn hx hy hk hxw hw hroom h0 h1
theorem te_appendA {x y : Operand} {t0 t1 e : TypeId} {l : Lab} {len : Nat} {xs ys : List PV} {n : Nat} (happ : appB P t0 t1 e = true) (hn : P.cellsOf e = n) (hx : evo (St.mk E H) x = .arr l n 0 len) (hy : itemsOf H (evo (St.mk E H) y) = some ys) (hr : ownRow H l n = some xs) (hlen : len = xs.length) (hw : cellsB n ys = true) (hroom : (len + ys.length) * P.bytesOf e ≤ roomB) (h1 : ∀ l', (l' = l ∨ H l' = none) → Tops P ops rest (St.mk (updO E dst (.arr l' n 0 (len + ys.length))) (upd (upd H l none) l' (some (.row true n (xs ++ ys))))) K) :
    Tops P ops (⟨dst, .call ⟨.builtin .append, #[x, y], #[t0, t1]⟩, ty, pos, af, none⟩ :: rest) (St.mk E H) K := by
  cases dst <;> exact t_appendA happ hn hx hy hr hlen hw hroom h1
theorem te_gval2 {op : Op} {j : Nat} {want : Bool} {d : Tmp} {c w b : Bool} {v : PV} (hd : (ops[j]?).bind (·.dst) = some d) (hb : E d = if c = w then .bool b else .tup []) (he : isEff op = false) (hc : ∀ g args ts, op ≠ .call ⟨.value g, args, ts⟩) (hv : c = w → b = want → opVal P (St.mk E H) op = some v) (h : Tops P ops rest (St.mk (updO E dst (if c = w then (if b = want then v else .tup []) else .tup [])) H) K) :
    Tops P ops (⟨dst, op, ty, pos, af, some (j, want)⟩ :: rest) (St.mk E H) K := by
  cases dst <;> exact t_gval2 hd hb he hc hv h
theorem te_gcall2 {g : Operand} {args : Array Operand} {ts : Array TypeId} {j : Nat} {want : Bool} {d : Tmp} {c w b : Bool} {f : Nat} {caps as : List PV} {r : PV} (hd : (ops[j]?).bind (·.dst) = some d) (hb : E d = if c = w then .bool b else .tup []) (hg : evo (St.mk E H) g = .fn f caps) (ha : c = w → b = want → args.toList.map (evo (St.mk E H)) ++ caps = as) (hc : as.all (closedB false) = true) (hp : c = w → b = want → PPure P f as r) (h : Tops P ops rest (St.mk (updO E dst (if c = w then (if b = want then r else .tup []) else .tup [])) H) K) :
    Tops P ops (⟨dst, .call ⟨.value g, args, ts⟩, ty, pos, af, some (j, want)⟩ :: rest) (St.mk E H) K := by
  cases dst <;> exact t_gcall2 hd hb hg ha hc hp h
theorem te_box {t : TypeId} {x : Operand} {v : PV} {cs : List PV} (hx : evo (St.mk E H) x = v) (hd : v.isDef = true) (hv : v.cells = cs) (h : Tops P ops rest (St.mk (updO E dst (.cptr cs)) H) K) : Tops P ops (⟨dst, .box t x, ty, pos, af, none⟩ :: rest) (St.mk E H) K := by
  cases dst <;> exact t_box hx hd hv h
theorem te_boxL {t : TypeId} {x : Operand} {v : PV} {n : Nat} (hx : evo (St.mk E H) x = v) (hd : v.isDef = true) (hn : v.cells.length = n) (h : ∀ l, H l = none → (∀ l', (H l').isSome = true → (l' = l) = False ∧ (l = l') = False) → Tops P ops rest (St.mk (updO E dst (.ref l n 0 0)) (upd H l (some (.row true n [v])))) K) : Tops P ops (⟨dst, .box t x, ty, pos, af, none⟩ :: rest) (St.mk E H) K := by
  cases dst <;> exact t_boxL hx hd hn h
theorem te_alloc {t : TypeId} {z : PV} {n : Nat} (hz : tzero P t = some z) (hd : z.isDef = true) (hn : z.cells.length = n) (h : ∀ l, H l = none → (∀ l', (H l').isSome = true → (l' = l) = False ∧ (l = l') = False) → Tops P ops rest (St.mk (updO E dst (.ref l n 0 0)) (upd H l (some (.row true n [z])))) K) : Tops P ops (⟨dst, .alloc t, ty, pos, af, none⟩ :: rest) (St.mk E H) K := by
  cases dst <;> exact t_alloc hz hd hn h
theorem te_store {t : TypeId} {a x : Operand} {l : Lab} {sz i off : Nat} {xs xs' : List PV} {e v : PV} (ha : evo (St.mk E H) a = .ref l sz i off) (hr : ownRow H l sz = some xs) (hi : xs[i]? = some e) (hx : evo (St.mk E H) x = v) (hd : (v.isDef && v.cells.all PV.isCell && v.cells.length == P.cellsOf t && P.cellsOf t != 0 && decide (off + P.cellsOf t ≤ sz) && (e.isAgg || !v.isAgg)) = true) (hs : xs.set i (setC e off v) = xs') (h : Tops P ops rest (St.mk (updO E dst (.tup [])) (upd H l (some (.row true sz xs')))) K) : Tops P ops (⟨dst, .store t a x, ty, pos, af, none⟩ :: rest) (St.mk E H) K := by
  cases dst <;> exact t_store ha hr hi hx hd hs h
theorem te_makeSlice {t e : TypeId} {x y : Operand} {z : PV} {n : Nat} {k k' : IntKind} {a : Int} (hu : P.underlying t = some (.slice e)) (hn : P.cellsOf e = n) (hx : evo (St.mk E H) x = .int k a) (hy : evo (St.mk E H) y = .int k' a) (hz : tzero P e = some z) (hd : z.isDef = true) (hl : z.cells.length = n) (h0 : 0 ≤ a) (hroom : a.toNat * P.bytesOf e ≤ roomB) (h63 : a ≤ 9223372036854775807) (h : ∀ l, H l = none → (∀ l', (H l').isSome = true → (l' = l) = False ∧ (l = l') = False) → Tops P ops rest (St.mk (updO E dst (.arr l n 0 a.toNat)) (upd H l (some (.row true n (List.replicate a.toNat z))))) K) :
    Tops P ops (⟨dst, .makeSlice t x y, ty, pos, af, none⟩ :: rest) (St.mk E H) K := by
  cases dst <;> exact t_makeSlice hu hn hx hy hz hd hl h0 hroom h63 h
theorem te_copy {x y : Operand} {t0 t1 e : TypeId} {l : Lab} {n lo len : Nat} {xs ys : List PV} (happ : appB P t0 t1 e = true) (hn : P.cellsOf e = n) (hx : evo (St.mk E H) x = .arr l n lo len) (hr : ownRow H l n = some xs) (hlen : lo + len ≤ xs.length) (hy : itemsOf H (evo (St.mk E H) y) = some ys) (hw : cellsB n ys = true) (h : Tops P ops rest (St.mk (updO E dst (.int .i64 ((min ys.length len : Nat) : Int))) (upd H l (some (.row true n (splice xs lo (ys.take len)))))) K) :
    Tops P ops (⟨dst, .call ⟨.builtin .copy, #[x, y], #[t0, t1]⟩, ty, pos, af, none⟩ :: rest) (St.mk E H) K := by
  cases dst <;> exact t_copy happ hn hx hr hlen hy hw h
theorem te_appendG {x y : Operand} {t0 t1 e : TypeId} {v : PV} {xs ys : List PV} {n : Nat} (happ : appB P t0 t1 e = true) (hn : P.cellsOf e = n) (hx : evo (St.mk E H) x = v) (hacc : Acc H v n xs) (hy : itemsOf H (evo (St.mk E H) y) = some ys) (hne : ys.isEmpty = false) (hw : cellsB n ys = true) (hroom : (xs.length + ys.length) * P.bytesOf e ≤ roomB) (h1 : ∀ u H', Acc H' u n (xs ++ ys) → Tops P ops rest (St.mk (updO E dst u) H') K) :
    Tops P ops (⟨dst, .call ⟨.builtin .append, #[x, y], #[t0, t1]⟩, ty, pos, af, none⟩ :: rest) (St.mk E H) K := by
  cases dst <;> exact t_appendG happ hn hx hacc hy hne hw hroom h1
theorem te_callG {ops : Array Oper} {K : St → Prop} {rest : List Oper} {dst : Option Tmp} {ty : TypeId} {pos : String} {af : Array Edge}  {g : Operand} {args : Array Operand} {ts : Array TypeId} {f : Nat} {caps as : List PV} (hg : evo (St.mk E H) g = .fn f caps) (ha : args.toList.map (evo (St.mk E H)) ++ caps = as) (h : CallsG P f as H fun r H' => Tops P ops rest (St.mk (updO E dst r) H') K) : Tops P ops (⟨dst, .call ⟨.value g, args, ts⟩, ty, pos, af, none⟩ :: rest) (St.mk E H) K := by
  cases dst <;> exact t_callG hg ha h
theorem me_val {op : Op} (v : PV) (he : isEff op = false) (hc : ∀ g args ts, op ≠ .call ⟨.value g, args, ts⟩) (hv : opVal P (St.mk E Hr) op = some v) (h : TopsDm P ops rest fl Hr (St.mk (updO E dst v) H) K) :
    TopsDm P ops (⟨dst, op, ty, pos, af, none⟩ :: rest) (false :: fl) Hr (St.mk E H) K := by
  cases dst <;> exact m_val v rfl he hc hv h
theorem me_callS {g : Operand} {args : Array Operand} {ts : Array TypeId} {f : Nat} {caps as as' : List PV} {r : PV} (hg : evo (St.mk E H) g = .fn f caps) (ha : args.toList.map (evo (St.mk E H)) ++ caps = as) (hn : as.mapM (norm false (restr [] Hr) 8) = some as') (hp : PPure P f as' r) (h : TopsDm P ops rest fl Hr (St.mk (updO E dst r) H) K) : TopsDm P ops (⟨dst, .call ⟨.value g, args, ts⟩, ty, pos, af, none⟩ :: rest) (false :: fl) Hr (St.mk E H) K := by
  cases dst <;> exact m_callS rfl hg ha hn hp h
theorem me_callO {g : Operand} {args : Array Operand} {ts : Array TypeId} {f : Nat} {caps as as' : List PV} {r : PV} (hg : evo (St.mk E H) g = .fn f caps) (ha : args.toList.map (evo (St.mk E H)) ++ caps = as) (hn : as.mapM (norm false Hr 8) = some as') (hp : PPure P f as' r) (hs : scalarB r = true) (h : TopsDm P ops rest fl Hr (St.mk (updO E dst r) H) K) : TopsDm P ops (⟨dst, .call ⟨.value g, args, ts⟩, ty, pos, af, none⟩ :: rest) (false :: fl) Hr (St.mk E H) K := by
  cases dst <;> exact m_callO rfl hg ha hn hp hs h
theorem me_gval {op : Op} {j : Nat} {want : Bool} {d : Tmp} (b : Bool) (v : PV) (hd : (ops[j]?).bind (·.dst) = some d) (hb : E d = .bool b) (he : isEff op = false) (hc : ∀ g args ts, op ≠ .call ⟨.value g, args, ts⟩) (hv : b = want → opVal P (St.mk E Hr) op = some v) (h : TopsDm P ops rest fl Hr (St.mk (updO E dst (if b = want then v else .tup [])) H) K) :
    TopsDm P ops (⟨dst, op, ty, pos, af, some (j, want)⟩ :: rest) (false :: fl) Hr (St.mk E H) K := by
  cases dst <;> exact m_gval b v rfl hd hb he hc hv h
theorem me_gcallS {g : Operand} {args : Array Operand} {ts : Array TypeId} {j : Nat} {want : Bool} {d : Tmp} {b : Bool} {f : Nat} {caps as : List PV} {r : PV} (hd : (ops[j]?).bind (·.dst) = some d) (hb : E d = .bool b) (hg : evo (St.mk E H) g = .fn f caps) (ha : b = want → args.toList.map (evo (St.mk E H)) ++ caps = as) (hc : as.all (closedB false) = true) (hp : b = want → PPure P f as r) (h : TopsDm P ops rest fl Hr (St.mk (updO E dst (if b = want then r else .tup [])) H) K) :
    TopsDm P ops (⟨dst, .call ⟨.value g, args, ts⟩, ty, pos, af, some (j, want)⟩ :: rest) (false :: fl) Hr (St.mk E H) K := by
  cases dst <;> exact m_gcallS rfl hd hb hg ha hc hp h
theorem me_gcallO {g : Operand} {args : Array Operand} {ts : Array TypeId} {j : Nat} {want : Bool} {d : Tmp} {b : Bool} {f : Nat} {caps as as' : List PV} {r : PV} (hd : (ops[j]?).bind (·.dst) = some d) (hb : E d = .bool b) (hg : evo (St.mk E H) g = .fn f caps) (ha : b = want → args.toList.map (evo (St.mk E H)) ++ caps = as) (hn : b = want → as.mapM (norm false Hr 8) = some as') (hp : b = want → PPure P f as' r) (hs : scalarB r = true) (h : TopsDm P ops rest fl Hr (St.mk (updO E dst (if b = want then r else .tup [])) H) K) :
    TopsDm P ops (⟨dst, .call ⟨.value g, args, ts⟩, ty, pos, af, some (j, want)⟩ :: rest) (false :: fl) Hr (St.mk E H) K := by
  cases dst <;> exact m_gcallO rfl hd hb hg ha hn hp hs h
theorem me_gno {op : Op} {j : Nat} {want b : Bool} {d : Tmp} (hd : (ops[j]?).bind (·.dst) = some d) (hb : E d = .bool b) (hne : (b == want) = false) (h : TopsDm P ops rest fl Hr (St.mk (updO E dst (.tup [])) H) K) :
    TopsDm P ops (⟨dst, op, ty, pos, af, some (j, want)⟩ :: rest) (false :: fl) Hr (St.mk E H) K := by
  cases dst <;> exact m_gno hd hb rfl hne h
theorem me_gskip {op : Op} {j : Nat} {want : Bool} {d : Tmp} (hd : (ops[j]?).bind (·.dst) = some d) (hb : E d = .tup []) (h : TopsDm P ops rest fl Hr (St.mk (updO E dst (.tup [])) H) K) :
    TopsDm P ops (⟨dst, op, ty, pos, af, some (j, want)⟩ :: rest) (false :: fl) Hr (St.mk E H) K := by
  cases dst <;> exact m_gskip rfl hd hb h
theorem me_append {x y : Operand} {t0 t1 e : TypeId} {k : LK} {xs ys : List PV} {n : Nat} (happ : appB P t0 t1 e = true) (hn : P.cellsOf e = n) (hx : evo (St.mk E H) x = .list k xs) (hy : itemsOf Hr (evo (St.mk E H) y) = some ys) (hk : (k == .any) = false) (hxw : widthB n xs = true) (hw : cellsB n ys = true) (hroom : (xs.length + ys.length) * P.bytesOf e ≤ roomB) (h0 : ys = [] → TopsDm P ops rest fl Hr (St.mk (updO E dst (.list k xs)) H) K) (h1 : ys ≠ [] → ∀ l, H l = none → (∀ l', (H l').isSome = true → (l' = l) = False ∧ (l = l') = False) → TopsDm P ops rest fl Hr (St.mk (updO E dst (.arr l n 0 (xs.length + ys.length))) (upd H l (some (.row true n (xs ++ ys))))) K) :
    TopsDm P ops (⟨dst, .call ⟨.builtin .append, #[x, y], #[t0, t1]⟩, ty, pos, af, none⟩ :: rest) (false :: fl) Hr (St.mk E H) K := by
  cases dst <;> exact m_append rfl happ hn hx hy hk hxw hw hroom h0 h1
theorem me_gval2 {op : Op} {j : Nat} {want : Bool} {d : Tmp} {c w b : Bool} {v : PV} (hd : (ops[j]?).bind (·.dst) = some d) (hb : E d = if c = w then .bool b else .tup []) (he : isEff op = false) (hc : ∀ g args ts, op ≠ .call ⟨.value g, args, ts⟩) (hv : c = w → b = want → opVal P (St.mk E Hr) op = some v) (h : TopsDm P ops rest fl Hr (St.mk (updO E dst (if c = w then (if b = want then v else .tup []) else .tup [])) H) K) :
    TopsDm P ops (⟨dst, op, ty, pos, af, some (j, want)⟩ :: rest) (false :: fl) Hr (St.mk E H) K := by
  cases dst <;> exact m_gval2 rfl hd hb he hc hv h
theorem me_gcall2 {g : Operand} {args : Array Operand} {ts : Array TypeId} {j : Nat} {want : Bool} {d : Tmp} {c w b : Bool} {f : Nat} {caps as : List PV} {r : PV} (hd : (ops[j]?).bind (·.dst) = some d) (hb : E d = if c = w then .bool b else .tup []) (hg : evo (St.mk E H) g = .fn f caps) (ha : c = w → b = want → args.toList.map (evo (St.mk E H)) ++ caps = as) (hc : as.all (closedB false) = true) (hp : c = w → b = want → PPure P f as r) (h : TopsDm P ops rest fl Hr (St.mk (updO E dst (if c = w then (if b = want then r else .tup []) else .tup [])) H) K) :
    TopsDm P ops (⟨dst, .call ⟨.value g, args, ts⟩, ty, pos, af, some (j, want)⟩ :: rest) (false :: fl) Hr (St.mk E H) K := by
  cases dst <;> exact m_gcall2 rfl hd hb hg ha hc hp h
theorem me_copy {x y : Operand} {t0 t1 e : TypeId} {l : Lab} {n lo len : Nat} {xs ys : List PV} (happ : appB P t0 t1 e = true) (hn : P.cellsOf e = n) (hx : evo (St.mk E H) x = .arr l n lo len) (hr : ownRow H l n = some xs) (hlen : lo + len ≤ xs.length) (hy : itemsOf H (evo (St.mk E H) y) = some ys) (hw : cellsB n ys = true) (h : TopsDm P ops rest fl (upd H l (some (.row true n (splice xs lo (ys.take len))))) (St.mk (updO E dst (.int .i64 ((min ys.length len : Nat) : Int))) (upd H l (some (.row true n (splice xs lo (ys.take len)))))) K) :
    TopsDm P ops (⟨dst, .call ⟨.builtin .copy, #[x, y], #[t0, t1]⟩, ty, pos, af, none⟩ :: rest) (true :: fl) Hr (St.mk E H) K := by
  cases dst <;> exact m_copy rfl happ hn hx hr hlen hy hw h
theorem me_store {t : TypeId} {a x : Operand} {l : Lab} {sz i off : Nat} {xs xs' : List PV} {e v : PV} (ha : evo (St.mk E H) a = .ref l sz i off) (hr : ownRow H l sz = some xs) (hi : xs[i]? = some e) (hx : evo (St.mk E H) x = v) (hd : (v.isDef && v.cells.all PV.isCell && v.cells.length == P.cellsOf t && P.cellsOf t != 0 && decide (off + P.cellsOf t ≤ sz) && (e.isAgg || !v.isAgg)) = true) (hs : xs.set i (setC e off v) = xs') (h : TopsDm P ops rest fl (upd H l (some (.row true sz xs'))) (St.mk (updO E dst (.tup [])) (upd H l (some (.row true sz xs')))) K) : TopsDm P ops (⟨dst, .store t a x, ty, pos, af, none⟩ :: rest) (true :: fl) Hr (St.mk E H) K := by
  cases dst <;> exact m_store rfl ha hr hi hx hd hs h
theorem me_alloc {t : TypeId} {z : PV} {n : Nat} (hz : tzero P t = some z) (hd : z.isDef = true) (hn : z.cells.length = n) (h : ∀ l, H l = none → (∀ l', (H l').isSome = true → (l' = l) = False ∧ (l = l') = False) → TopsDm P ops rest fl Hr (St.mk (updO E dst (.ref l n 0 0)) (upd H l (some (.row true n [z])))) K) :
    TopsDm P ops (⟨dst, .alloc t, ty, pos, af, none⟩ :: rest) (false :: fl) Hr (St.mk E H) K := by
  cases dst <;> exact m_alloc rfl hz hd hn h
theorem me_boxL {t : TypeId} {x : Operand} {v : PV} {n : Nat} (hx : evo (St.mk E H) x = v) (hd : v.isDef = true) (hn : v.cells.length = n) (h : ∀ l, H l = none → (∀ l', (H l').isSome = true → (l' = l) = False ∧ (l = l') = False) → TopsDm P ops rest fl Hr (St.mk (updO E dst (.ref l n 0 0)) (upd H l (some (.row true n [v])))) K) :
    TopsDm P ops (⟨dst, .box t x, ty, pos, af, none⟩ :: rest) (false :: fl) Hr (St.mk E H) K := by
  cases dst <;> exact m_boxL rfl hx hd hn h
theorem me_appendG {x y : Operand} {t0 t1 e : TypeId} {v : PV} {xs ys : List PV} {n : Nat} (happ : appB P t0 t1 e = true) (hn : P.cellsOf e = n) (hx : evo (St.mk E H) x = v) (hacc : Acc H v n xs) (hy : itemsOf H (evo (St.mk E H) y) = some ys) (hne : ys.isEmpty = false) (hw : cellsB n ys = true) (hroom : (xs.length + ys.length) * P.bytesOf e ≤ roomB) (h1 : ∀ u H', Acc H' u n (xs ++ ys) → TopsDm P ops rest fl H' (St.mk (updO E dst u) H') K) :
    TopsDm P ops (⟨dst, .call ⟨.builtin .append, #[x, y], #[t0, t1]⟩, ty, pos, af, none⟩ :: rest) (true :: fl) Hr (St.mk E H) K := by
  cases dst <;> exact m_appendG rfl happ hn hx hacc hy hne hw hroom h1

theorem te_gno2 {rest : List Oper} {op : Op} {j : Nat} {want c w b : Bool} {d : Tmp} (hd : (ops[j]?).bind (·.dst) = some d) (hb : E d = if c = w then .bool b else .tup []) (hne : (b == want) = false) (h : Tops P ops rest (St.mk (updO E dst (.tup [])) H) K) :
    Tops P ops (⟨dst, op, ty, pos, af, some (j, want)⟩ :: rest) (St.mk E H) K := by
  by_cases hw : c = w
  · rw [if_pos hw] at hb; exact te_gno hd hb hne h
  · rw [if_neg hw] at hb; exact te_gskip hd hb h
theorem me_gno2 {rest : List Oper} {op : Op} {j : Nat} {want c w b : Bool} {d : Tmp} (hd : (ops[j]?).bind (·.dst) = some d) (hb : E d = if c = w then .bool b else .tup []) (hne : (b == want) = false) (h : TopsDm P ops rest fl Hr (St.mk (updO E dst (.tup [])) H) K) :
    TopsDm P ops (⟨dst, op, ty, pos, af, some (j, want)⟩ :: rest) (false :: fl) Hr (St.mk E H) K := by
  by_cases hw : c = w
  · rw [if_pos hw] at hb; exact me_gno hd hb hne h
  · rw [if_neg hw] at hb; exact me_gskip hd hb h
theorem te_drwE {id : Nat} {l : List Oper} {Q : X → St → Prop} {fl : List Bool} (hfl : effFl l = fl) (hok : drawOK false l.toArray fl = true) (h : TopsDm P l.toArray l fl H ⟨E, H⟩ (Q .normal)) : T P (.region id l.toArray true) ⟨E, H⟩ Q := t_draw fl hok h
/-- The same with marks on appends, too. -/
def effFlA (l : List Oper) : List Bool := l.map fun o => match o.op with
  | .store .. => true
  | .call { callee := .builtin .copy, .. } => true
  | .call { callee := .builtin .append, .. } => true
  | _ => false
theorem te_drwA {id : Nat} {l : List Oper} {Q : X → St → Prop} {fl : List Bool} (hfl : effFlA l = fl) (hok : drawOK false l.toArray fl = true) (h : TopsDm P l.toArray l fl H ⟨E, H⟩ (Q .normal)) : T P (.region id l.toArray true) ⟨E, H⟩ Q := t_draw fl hok h
def KinvE (I : Nat → (Nat → PV) → Hp → Prop) (k : Nat) (Q : X → St → Prop) (x : X) (s : St) : Prop :=
  match x with
  | .normal => ∃ k', k' < k ∧ I k' s.env s.H
  | x => Q x s
theorem t_loopE {c : Code} {Q : X → St → Prop} (I : Nat → (Nat → PV) → Hp → Prop) (k : Nat) (h0 : I k E H) (step : ∀ k E' H', (∀ t, wrs t c = false → E' t = E t) → I k E' H' → T P c ⟨E', H'⟩ (KinvE I k Q)) :
    T P (.loop c) ⟨E, H⟩ Q :=
  t_loopF (fun k s => I k s.env s.H) k h0 fun k s hf hi => T_mono c _ _ _ (fun x s' h => by cases x <;> exact h) (step k s.env s.H hf hi)
theorem k_invE {I : Nat → (Nat → PV) → Hp → Prop} {k : Nat} {Q : X → St → Prop} (k' : Nat) (hlt : k' < k) (h : I k' E H) : KinvE I k Q .normal ⟨E, H⟩ := ⟨k', hlt, h⟩
theorem k_invE_exit {I : Nat → (Nat → PV) → Hp → Prop} {k : Nat} {Q : X → St → Prop} {s : St} {id : Nat} (h : Q (.exit id) s) : KinvE I k Q (.exit id) s := h
theorem k_invE_ret {I : Nat → (Nat → PV) → Hp → Prop} {k : Nat} {Q : X → St → Prop} {s : St} (h : Q .ret s) : KinvE I k Q .ret s := h
end
end
end Go.Proofs.Ytloecggdboingaa
namespace Go.Proofs.Ytloecggdboingaa
open Go.RowKit
set_option linter.unusedVariables false
set_option linter.unusedSimpArgs false
section
variable {P : Program} {E : Nat → PV} {H : Hp}
/-- The same where what comes before the first write looks at no own memory. -/
theorem te_drwZ {id : Nat} {l : List Oper} {Q : X → St → Prop} {fl : List Bool} (hfl : effFl l = fl) (hok : drawOK true l.toArray fl = true) (h : TopsDm P l.toArray l fl (fun _ => none) ⟨E, H⟩ (Q .normal)) : T P (.region id l.toArray true) ⟨E, H⟩ Q :=
  ⟨true, fl, hok, h⟩
/-- A pure call whose result may lead to own memory that it got: that memory is written no more. -/
theorem te_callF {ops : Array Oper} {K : St → Prop} {rest : List Oper} {dst : Option Tmp} {ty : TypeId} {pos : String} {af : Array Edge} (L : List Lab) {g : Operand} {args : Array Operand} {ts : Array TypeId} {f : Nat} {caps as as' : List PV} {r : PV} (hg : evo (St.mk E H) g = .fn f caps) (ha : args.toList.map (evo (St.mk E H)) ++ caps = as)
    (hn : as.mapM (norm false (restr L H) 8) = some as') (hp : PPure P f as' r) (h : Tops P ops rest (St.mk (updO E dst r) (frz L H)) K) : Tops P ops (⟨dst, .call ⟨.value g, args, ts⟩, ty, pos, af, none⟩ :: rest) (St.mk E H) K := by
  refine t_call f caps hg ?_
  rw [ha]
  refine callok_frz false 8 L as' hn r hp ?_
  cases dst <;> exact h
theorem frz_apply (L : List Lab) (l : Lab) : frz L H l = if l ∈ L then (H l).map Chunk.frz else H l := rfl
theorem restr_apply (L : List Lab) (l : Lab) : restr L H l = if l ∈ L then H l else none := rfl
theorem frz_row (m : Bool) (n : Nat) (xs : List PV) : Chunk.frz (.row m n xs) = .row false n xs := rfl
attribute [go_sem] frz_apply restr_apply frz_row List.mem_singleton
end
end Go.Proofs.Ytloecggdboingaa
namespace Go.Proofs.Ytloecggdboingaa
open Go.RowKit
set_option linter.unusedVariables false
set_option linter.unusedSimpArgs false
def Sep : PV → PV → Prop
  | .arr l _ _ _, .arr l' _ _ _ => l ≠ l'
  | _, _ => True
/-- Two rows of own memory, each nil or a row, that share nothing. -/
def Acc2 (H : Hp) (v : PV) (n : Nat) (xs : List PV) (v2 : PV) (n2 : Nat) (ys : List PV) : Prop := Acc H v n xs ∧ Acc H v2 n2 ys ∧ Sep v v2
theorem Sep.symm {v v2 : PV} (h : Sep v v2) : Sep v2 v := by
  cases v <;> cases v2 <;> first | trivial | exact Ne.symm h
theorem Acc2.symm {H : Hp} {v v2 : PV} {n n2 : Nat} {xs ys : List PV} (h : Acc2 H v n xs v2 n2 ys) : Acc2 H v2 n2 ys v n xs := ⟨h.2.1, h.1, h.2.2.symm⟩
theorem Acc2.nil (H : Hp) (n n2 : Nat) : Acc2 H (.list .nil []) n [] (.list .nil []) n2 [] := ⟨Acc.nil _ _, Acc.nil _ _, trivial⟩
section
variable {P : Program} {E : Nat → PV} {H : Hp} {ops : Array Oper} {K : St → Prop} {rest : List Oper} {dst : Option Tmp} {ty : TypeId} {pos : String} {af : Array Edge}
theorem te_append2 {x y : Operand} {t0 t1 e : TypeId} {v v2 : PV} {xs ys zs : List PV} {n n2 : Nat} (happ : appB P t0 t1 e = true) (hn : P.cellsOf e = n) (hx : evo (St.mk E H) x = v) (hacc : Acc2 H v n xs v2 n2 zs) (hy : itemsOf H (evo (St.mk E H) y) = some ys)
    (hne : ys.isEmpty = false) (hw : cellsB n ys = true) (hroom : (xs.length + ys.length) * P.bytesOf e ≤ roomB)
    (h1 : ∀ u H', Acc2 H' u n (xs ++ ys) v2 n2 zs → Tops P ops rest (St.mk (updO E dst u) H') K) :
    Tops P ops (⟨dst, .call ⟨.builtin .append, #[x, y], #[t0, t1]⟩, ty, pos, af, none⟩ :: rest) (St.mk E H) K := by
  obtain ⟨ha, hb, hs⟩ := hacc
  rcases ha with ⟨rfl, k, hk, rfl⟩ | ⟨l, rfl, hl⟩
  · refine te_append happ hn hx hy hk rfl hw (by simpa using hroom) (fun h => by rw [h] at hne; cases hne) (fun _ l hl _ => ?_)
    refine h1 _ _ ⟨.inr ⟨l, by simp, by simp⟩, (by rcases hb with ⟨g1, g2⟩ | ⟨l2, g1, g2⟩; exact .inl ⟨g1, g2⟩; exact .inr ⟨l2, g1, by rw [upd_ne _ _ (fun e => by rw [e, hl] at g2; cases g2)]; exact g2⟩), ?_⟩
    rcases hb with ⟨_, k2, _, rfl⟩ | ⟨l2, rfl, hl2⟩
    · trivial
    · intro e
      have e : l = l2 := e
      rw [e, hl2] at hl; cases hl
  · refine te_appendA happ hn hx hy (by unfold ownRow; rw [hl]; simp) rfl hw hroom (fun l' hl' => ?_)
    have hne2 : ∀ l2 s lo len, v2 = .arr l2 s lo len → ∀ c, H l2 = some c → l2 ≠ l ∧ l2 ≠ l' := by
      intro l2 s lo len hv c hc
      subst hv
      have h1 : l ≠ l2 := hs
      refine ⟨fun e => h1 e.symm, fun e => ?_⟩
      rcases hl' with h | h
      · exact h1 (by rw [e, h])
      · rw [e, h] at hc; cases hc
    refine h1 _ _ ⟨.inr ⟨l', by simp, by simp⟩, ?_, ?_⟩
    · rcases hb with ⟨g1, g2⟩ | ⟨l2, rfl, hl2⟩
      · exact .inl ⟨g1, g2⟩
      · obtain ⟨e1, e2⟩ := hne2 l2 _ _ _ rfl _ hl2
        exact .inr ⟨l2, rfl, by rw [upd_ne _ _ e2, upd_ne _ _ e1]; exact hl2⟩
    · rcases hb with ⟨_, k2, _, rfl⟩ | ⟨l2, rfl, hl2⟩
      · trivial
      · obtain ⟨e1, e2⟩ := hne2 l2 _ _ _ rfl _ hl2
        exact fun e => e2 e.symm
end
end Go.Proofs.Ytloecggdboingaa
namespace Go.Proofs.Ytloecggdboingaa
open Go.ChangeShapes Go.WideShapes Go.ChangeAt Go.RowKit Go.Deep
set_option linter.unusedVariables false
set_option linter.unusedSimpArgs false

/-- The shape of a type of plain data; a struct is its fields in a row. -/
inductive PT where
  | bool
  | int (k : IntKind)
  | str
  | list (row : Bool) (e : PT)
  | unit
  | seq (a b : PT)
def PT.width : PT → Nat
  | .bool | .int _ | .str | .list _ _ => 1
  | .unit => 0
  | .seq a b => a.width + b.width

/-- Cells of that shape. -/
def TV : PT → List PV → Prop
  | .bool, l => ∃ b, l = [.bool b]
  | .int k, l => ∃ n, l = [.int k n] ∧ (Lit.int k n).wf = true
  | .str, l => ∃ s : List UInt8, l = [.str s] ∧ s.length ≤ maxLen
  | .list r e, l => ∃ xs : List PV, l = [.list .any xs] ∧ xs.length ≤ maxLen ∧ ∀ x ∈ xs, TV e x.cells ∧ (r = true → ∃ c, x = .agg c) ∧ (r = false → x.cells = [x])
  | .unit, l => l = []
  | .seq a b, l => ∃ p q, l = p ++ q ∧ TV a p ∧ TV b q

theorem TV.width : ∀ (T : PT) (l : List PV), TV T l → l.length = T.width
  | .bool, l, h => by obtain ⟨b, rfl⟩ := h; rfl
  | .int k, l, h => by obtain ⟨b, rfl, _⟩ := h; rfl
  | .str, l, h => by obtain ⟨b, rfl, _⟩ := h; rfl
  | .list r e, l, h => by obtain ⟨b, rfl, _⟩ := h; rfl
  | .unit, l, h => by have : l = [] := h; rw [this]; rfl
  | .seq a b, l, h => by
    obtain ⟨p, q, rfl, h1, h2⟩ := h
    rw [List.length_append, TV.width a p h1, TV.width b q h2]; rfl

def isSt : Option TypeDesc → Bool
  | some (.struct _) => true
  | _ => false
/-- Has the type this shape? -/
def okFs (F : TypeId → PT → Bool) (P : Program) : List Field → Nat → PT → Bool
  | [], _, .unit => true
  | f :: fs, off, .seq a b => f.offset == off && F f.type a && P.cellsOf f.type == a.width && okFs F P fs (off + a.width) b
  | _, _, _ => false
def okT (P : Program) : Nat → TypeId → PT → Bool
  | 0, _, _ => false
  | n + 1, t, T => match P.underlying t, T with
    | some .bool, .bool => true
    | some (.int k), .int k' => k == k'
    | some .string, .str => true
    | some (.slice e), .list r T' => okT P n e T' && P.cellsOf e == T'.width && P.cellsOf e != 0 && r == isSt (P.underlying e)
    | some (.struct fs), T => P.cellsOf t == T.width && okFs (okT P n) P fs.toList 0 T
    | _, _ => false

/-- Cells of the machine that stand for plain cells. -/
def CRel (w : World) (cs : List Value) (qs : List PV) : Prop := cs.length = qs.length ∧ ∀ (i : Nat) v q, cs[i]? = some v → qs[i]? = some q → VR w (fun _ => False) v q
theorem CRel.one {w : World} {v : Value} {q : PV} (h : VR w (fun _ => False) v q) : CRel w [v] [q] := ⟨rfl, fun i v' q' h1 h2 => by
  cases i with
  | zero => simp at h1 h2; subst h1; subst h2; exact h
  | succ i => simp at h1⟩
theorem CRel.app {w : World} {a b : List Value} {p q : List PV} (h1 : CRel w a p) (h2 : CRel w b q) : CRel w (a ++ b) (p ++ q) := ⟨by rw [List.length_append, List.length_append, h1.1, h2.1], fun i v x hv hx => by
  rcases Nat.lt_or_ge i a.length with hl | hl
  · rw [List.getElem?_append_left hl] at hv
    rw [List.getElem?_append_left (by rw [← h1.1]; exact hl)] at hx
    exact h1.2 i v x hv hx
  · rw [List.getElem?_append_right hl] at hv
    rw [List.getElem?_append_right (by rw [← h1.1]; exact hl), ← h1.1] at hx
    exact h2.2 _ v x hv hx⟩

section
variable {H : Type} {enc : TypeId × Value → H} {P : Program} {w : World} {base : Nat} {sp : Nat → Bool} {held : Bool}

theorem width_of : ∀ (n : Nat) (t : TypeId) (T : PT) (fuel : Nat) (cs : List Value) (x : DataW H × List MemPlace), okT P n t T = true → DataW.trod enc P w base sp held fuel t cs = some x → cs.length = T.width := by
  intro n t T fuel cs x hok h
  cases n with
  | zero => cases hok
  | succ n =>
    unfold okT at hok
    split at hok
    · rename_i hu
      obtain ⟨b, hc, _⟩ := DataW.trod_bool hu h
      rw [hc]; rfl
    · rename_i k k' hu
      obtain ⟨m, hc, _⟩ := DataW.trod_int hu h
      rw [hc]; rfl
    · rename_i hu
      obtain ⟨s, hc, _⟩ := DataW.trod_string hu h
      rw [hc]; rfl
    · rename_i e r T' hu
      rcases open_slice hu h with ⟨rfl, _⟩ | ⟨a, len, cap, m, k, D, Pl, rfl, _⟩ <;> rfl
    · rename_i fs hu
      obtain ⟨xs, n', _, _, hl, _⟩ := DataW.trod_struct hu h
      simp only [Bool.and_eq_true, beq_iff_eq] at hok
      rw [hl, hok.1]
    · cases hok

def mkE (r : Bool) (q : List PV) : PV := if r = true then .agg q else q.headD .undef

theorem open_pv : ∀ (n : Nat) (t : TypeId) (T : PT) (fuel : Nat) (cs : List Value) (x : DataW H × List MemPlace), okT P n t T = true → DataW.trod enc P w base sp held fuel t cs = some x →
    ∃ qs, TV T qs ∧ CRel w cs qs := by
  intro n
  induction n with
  | zero => intro t T fuel cs x hok; cases hok
  | succ n ih =>
    intro t T fuel cs x hok h
    unfold okT at hok
    split at hok
    · rename_i hu
      obtain ⟨b, rfl, _⟩ := DataW.trod_bool hu h
      exact ⟨[.bool b], ⟨b, rfl⟩, .one (.bool b)⟩
    · rename_i k k' hu
      simp only [beq_iff_eq] at hok
      subst hok
      obtain ⟨m, rfl, _, hw⟩ := DataW.trod_int hu h
      exact ⟨[.int k m], ⟨m, rfl, hw⟩, .one (.int k m)⟩
    · rename_i hu
      obtain ⟨s, rfl, _, hs⟩ := DataW.trod_string hu h
      refine ⟨[.str s.data.toList], ⟨s.data.toList, rfl, by simpa using hs⟩, .one ?_⟩
      have := VR.str (w := w) (O := fun _ => False) s.data.toList
      simpa using this
    · rename_i e r T' hu
      simp only [Bool.and_eq_true, beq_iff_eq, bne_iff_ne] at hok
      obtain ⟨⟨⟨hT, hw⟩, hw0⟩, hr⟩ := hok
      rcases open_slice hu h with ⟨rfl, _⟩ | ⟨a, len, cap, m, k, D, Pl, rfl, _, hlc, hcm, hm, _, hel⟩
      · exact ⟨[.list .any []], ⟨[], rfl, by simp, fun x hx => by cases hx⟩, .one (.list .any [] none 0 0 [] (Nat.le_refl _) (fun h => by cases h) (fun h => by cases h) rfl (fun x h => by cases h) (fun h => absurd rfl h) (fun i v p h => by simp at h))⟩
      · have hlm : len ≤ m := by rw [hm]; split <;> omega
        have hall : ∀ i : Nat, ∃ (C : List Value) (Q : List PV), i < len → (w.cells? base (a.add (i * P.cellsOf e)) (P.cellsOf e) = some C ∧ TV T' Q ∧ CRel w C Q) := by
          intro i
          by_cases hi : i < len
          · obtain ⟨C, hC, ht⟩ := hel i (by omega)
            obtain ⟨Q, hQ, hCQ⟩ := ih e T' k C _ hT ht
            exact ⟨C, Q, fun _ => ⟨hC, hQ, hCQ⟩⟩
          · exact ⟨[], [], fun h => absurd h hi⟩
        obtain ⟨C, hC⟩ := Classical.axiomOfChoice hall
        obtain ⟨Q, hQ⟩ := Classical.axiomOfChoice hC
        generalize hsz : P.cellsOf e = sz at *
        have hQl : ∀ i, i < len → (Q i).length = sz := fun i hi => by rw [TV.width T' _ (hQ i hi).2.1, hw]
        have hCl : ∀ i, i < len → (C i).length = sz := fun i hi => by rw [(hQ i hi).2.2.1, hQl i hi]
        -- a list with one cell is no struct
        have hrow : r = true ∨ (r = false ∧ ∀ i, i < len → ∃ q, Q i = [q] ∧ q.cells = [q]) := by
          cases r with
          | true => exact .inl rfl
          | false =>
            refine .inr ⟨rfl, fun i hi => ?_⟩
            have hTV := (hQ i hi).2.1
            cases n with
            | zero => cases hT
            | succ n =>
              unfold okT at hT
              split at hT
              · obtain ⟨b, e⟩ := hTV; exact ⟨_, e, rfl⟩
              · obtain ⟨b, e, _⟩ := hTV; exact ⟨_, e, rfl⟩
              · obtain ⟨b, e, _⟩ := hTV; exact ⟨_, e, rfl⟩
              · obtain ⟨b, e, _⟩ := hTV; exact ⟨_, e, rfl⟩
              · rename_i fs hus
                rw [hus] at hr; cases hr
              · cases hT
        have hcell : ∀ i, i < len → (mkE r (Q i)).cells = Q i := by
          intro i hi
          rcases hrow with h | ⟨h, hq⟩
          · unfold mkE; rw [if_pos h]; rfl
          · obtain ⟨q, e1, e2⟩ := hq i hi
            unfold mkE; rw [if_neg (by rw [h]; decide), e1]; exact e2
        have hxs : ∀ i, i < len → ((List.range len).map fun i => mkE r (Q i))[i]? = some (mkE r (Q i)) := fun i hi => by
          rw [List.getElem?_map, List.getElem?_range hi]; rfl
        have hmemx : ∀ x ∈ (List.range len).map (fun i => mkE r (Q i)), ∃ i, i < len ∧ x = mkE r (Q i) := by
          intro x hx
          obtain ⟨i, hi, rfl⟩ := List.mem_map.1 hx
          exact ⟨i, by simpa using hi, rfl⟩
        have hszx : ∀ x ∈ (List.range len).map (fun i => mkE r (Q i)), x.cells.length = sz := by
          intro x hx
          obtain ⟨i, hi, rfl⟩ := hmemx x hx
          rw [hcell i hi, hQl i hi]
        refine ⟨[.list .any ((List.range len).map fun i => mkE r (Q i))], ⟨_, rfl, by simp; omega, fun x hx => ?_⟩, .one ?_⟩
        · obtain ⟨i, hi, rfl⟩ := hmemx x hx
          refine ⟨by rw [hcell i hi]; exact (hQ i hi).2.1, fun hr => ⟨Q i, by unfold mkE; rw [if_pos hr]⟩, fun hr => ?_⟩
          rcases hrow with h | ⟨h, hq⟩
          · rw [h] at hr; cases hr
          · obtain ⟨q, e1, e2⟩ := hq i hi
            unfold mkE; rw [if_neg (by rw [h]; decide), e1]; exact e2
        · -- the cells in a row
          have hcl : ∀ i r', i < len → r' < sz → w.cell? ((a.add (i * sz)).add r') = (C i)[r']? := by
            intro i r' hi hr'
            have h1 := (hQ i hi).1
            unfold World.cells? at h1
            split at h1
            · have := mapM_some_get h1 r' r' (by rw [List.getElem?_range hr'])
              exact this
            · cases h1
          have hgetC : ∀ i r', i < len → r' < sz → ∃ v, (C i)[r']? = some v := fun i r' hi hr' => ⟨(C i)[r']'(by rw [hCl i hi]; exact hr'), List.getElem?_eq_getElem _⟩
          have hspot : 0 < len → a.spot = none ∧ a.block < w.heap.size := by
            intro hl
            obtain ⟨v, hv⟩ := hgetC 0 0 hl (by omega)
            have h0 := hcl 0 0 hl (by omega)
            rw [hv] at h0
            simp only [Nat.zero_mul, Addr.add, if_true] at h0
            unfold World.cell? at h0
            split at h0
            · rename_i c _ _ hb
              split at h0
              · cases h0
              · rename_i hs
                exact ⟨by cases hx : a.spot <;> simp_all, lt_of_block hb⟩
            · cases h0
          have hflat : (flat ((List.range len).map fun i => mkE r (Q i))).length = len * sz := by rw [flat_len hszx]; simp
          have := VR.list (w := w) (O := fun _ => False) .any ((List.range len).map fun i => mkE r (Q i)) (some a) cap sz ((List.range (len * sz)).map fun j => ((C (j / sz))[j % sz]?).getD undef)
            (by simp; exact hlc) (fun h => by cases h) (fun h => by cases h) (by rw [hflat]; simp) hszx
            (fun hne => by
              have hl : 0 < len := by
                rcases Nat.eq_zero_or_pos len with h | h
                · subst h; exact absurd rfl hne
                · exact h
              obtain ⟨hs, hb⟩ := hspot hl
              refine ⟨a.block, a.off, by cases a; simp_all, hb, fun h => h, fun j v hv => ?_⟩
              have hj : j < len * sz := by
                have := (List.getElem?_eq_some_iff.1 hv).1
                simpa using this
              rw [List.getElem?_map, List.getElem?_range hj] at hv
              have h0 : 0 < sz := by omega
              have hi : j / sz < len := (Nat.div_lt_iff_lt_mul h0).2 hj
              have hr' : j % sz < sz := Nat.mod_lt _ h0
              obtain ⟨u, hu'⟩ := hgetC _ _ hi hr'
              simp only [Option.map_some, hu', Option.getD_some, Option.some.injEq] at hv
              subst hv
              have hc := hcl _ _ hi hr'
              rw [hu'] at hc
              rw [← hc]
              congr 1
              obtain ⟨ab, ao, as'⟩ := a
              simp only at hs
              subst hs
              rw [Addr.add_mid, Addr.add_mid, Nat.add_assoc, Nat.div_add_mod' j sz])
            (fun j v p hv hp => by
              obtain ⟨i, y, r', hy, hr', rfl, hpc⟩ := flat_split hszx hp
              have hi : i < len := by
                have := (List.getElem?_eq_some_iff.1 hy).1
                simpa using this
              rw [hxs i hi] at hy
              obtain rfl := Option.some.inj hy
              rw [hcell i hi] at hpc
              have h0 : 0 < sz := by omega
              have hj : i * sz + r' < len * sz := by
                have : (i + 1) * sz ≤ len * sz := Nat.mul_le_mul_right _ hi
                rw [Nat.succ_mul] at this; omega
              rw [List.getElem?_map, List.getElem?_range hj] at hv
              have e1 : (i * sz + r') / sz = i := by rw [Nat.add_comm, Nat.add_mul_div_right _ _ h0, Nat.div_eq_of_lt hr', Nat.zero_add]
              have e2 : (i * sz + r') % sz = r' := by rw [Nat.add_comm, Nat.add_mul_mod_self_right, Nat.mod_eq_of_lt hr']
              obtain ⟨u, hu'⟩ := hgetC i r' hi hr'
              simp only [Option.map_some, e1, e2, hu', Option.getD_some, Option.some.injEq] at hv
              subst hv
              exact (hQ i hi).2.2.2 r' u p hu' hpc)
          simpa using this
    · rename_i fs hu
      simp only [Bool.and_eq_true, beq_iff_eq] at hok
      obtain ⟨xs, n', _, _, hl, hlen, hf⟩ := DataW.trod_struct hu h
      have key : ∀ (l : List Field) (off : Nat) (T : PT) (k : Nat), okFs (okT P n) P l off T = true → (∀ (i : Nat) f, l[i]? = some f → fs.toList[k + i]? = some f) → off + T.width ≤ cs.length →
          ∃ qs, TV T qs ∧ CRel w ((cs.drop off).take T.width) qs := by
        intro l
        induction l with
        | nil =>
          intro off T k hk _ _
          cases T <;> first | (cases hk; done) | skip
          exact ⟨[], rfl, by simp [PT.width, CRel]⟩
        | cons f l ihl =>
          intro off T k hk hsub hle
          cases T <;> first | (cases hk; done) | skip
          rename_i A B
          simp only [okFs, Bool.and_eq_true, beq_iff_eq] at hk
          obtain ⟨⟨⟨ho, hA⟩, hwA⟩, hB⟩ := hk
          have hfk := hsub 0 f rfl
          have hx : ∃ y, DataW.trod enc P w base sp held n' f.type ((cs.drop f.offset).take (P.cellsOf f.type)) = some y := by
            have h1 := hf k f (by simpa using hfk)
            have hk' : k < xs.length := by
              rw [hlen]
              have := (List.getElem?_eq_some_iff.1 hfk).1
              simpa using this
            rw [h1]
            exact ⟨xs[k], List.getElem?_eq_getElem hk'⟩
          obtain ⟨y, hy⟩ := hx
          rw [ho, hwA] at hy
          obtain ⟨qa, hqa, hca⟩ := ih _ _ _ _ _ hA hy
          have hle' : off + (A.width + B.width) ≤ cs.length := hle
          obtain ⟨qb, hqb, hcb⟩ := ihl (off + A.width) B (k + 1) hB (fun i g hg => by
            have := hsub (i + 1) g (by simpa using hg)
            rw [show k + 1 + i = k + (i + 1) by omega]; exact this) (by omega)
          refine ⟨qa ++ qb, ⟨qa, qb, rfl, hqa, hqb⟩, ?_⟩
          have : (cs.drop off).take (PT.width (.seq A B)) = (cs.drop off).take A.width ++ (cs.drop (off + A.width)).take B.width := by
            show (cs.drop off).take (A.width + B.width) = _
            rw [List.take_add, List.drop_drop]
          rw [this]
          exact hca.app hcb
      obtain ⟨qs, h1, h2⟩ := key fs.toList 0 _ 0 hok.2 (fun i f hf => by simpa using hf) (by rw [hl, hok.1]; omega)
      refine ⟨qs, h1, ?_⟩
      rw [List.drop_zero, ← hok.1, ← hl, List.take_length] at h2
      exact h2
    · cases hok
end
end Go.Proofs.Ytloecggdboingaa
namespace Go.Proofs.Ytloecggdboingaa
open Go.ChangeShapes Go.WideShapes Go.ChangeAt Go.RowKit Go.Deep
set_option linter.unusedVariables false
set_option linter.unusedSimpArgs false

abbrev noO : Nat → Prop := fun _ => False
section
variable {H : Type} {enc : TypeId × Value → H} {P : Program} {w : World} {r : Reach} {b0 : Nat} {base : Nat} {sp : Nat → Bool} {held : Bool} {t : TypeId} {v : Value} {d : DataW H} {ps : List MemPlace}
theorem arg_slice {e : TypeId} {T : PT} (n : Nat) (hu : P.underlying t = some (.slice e)) (hok : okT P n t T = true) (hv : Value.okWide P w r b0 t v) (h : DataW.Trod enc P w base sp held t v d ps) :
    ∃ q, TV T [q] ∧ VR w noO v q := by
  obtain ⟨a, len, cap, rfl⟩ := okWide_slice hu hv
  obtain ⟨fuel, hf⟩ := h
  obtain ⟨qs, hT, hl, hc⟩ := open_pv n t T fuel _ _ hok hf
  have hl : 1 = qs.length := by simpa [Value.cells] using hl
  obtain ⟨q, rfl⟩ := List.length_eq_one_iff.1 hl.symm
  exact ⟨q, hT, hc 0 _ q (by simp [Value.cells]) rfl⟩
theorem arg_struct {fs : Array Field} {T : PT} (n : Nat) (hu : P.underlying t = some (.struct fs)) (hok : okT P n t T = true) (hv : Value.okWide P w r b0 t v) (h : DataW.Trod enc P w base sp held t v d ps) :
    ∃ qs, TV T qs ∧ VR w noO v (.agg qs) := by
  obtain ⟨cs, rfl, hs⟩ := okWide_struct hu hv
  obtain ⟨fuel, hf⟩ := h
  obtain ⟨qs, hT, hl, hc⟩ := open_pv n t T fuel _ _ hok hf
  have hl : cs.size = qs.length := by simpa [Value.cells] using hl
  exact ⟨qs, hT, .agg qs cs hl (fun i v p hv hp => hc i v p (by simpa [Value.cells] using hv) hp)⟩
theorem arg_int {k : IntKind} (hu : P.underlying t = some (.int k)) (hv : Value.okWide P w r b0 t v) (h : DataW.Trod enc P w base sp held t v d ps) :
    ∃ n, (Lit.int k n).wf = true ∧ VR w noO v (.int k n) := by
  obtain ⟨n, rfl, _, _, hw⟩ := open_int hu hv h
  exact ⟨n, hw, .int k n⟩
theorem arg_bool (hu : P.underlying t = some .bool) (hv : Value.okWide P w r b0 t v) (h : DataW.Trod enc P w base sp held t v d ps) : ∃ b, VR w noO v (.bool b) := by
  obtain ⟨b, rfl, _, _⟩ := open_bool hu hv h
  exact ⟨b, .bool b⟩
theorem arg_str (hu : P.underlying t = some .string) (hv : Value.okWide P w r b0 t v) (h : DataW.Trod enc P w base sp held t v d ps) : ∃ s : List UInt8, s.length ≤ maxLen ∧ VR w noO v (.str s) := by
  obtain ⟨s, rfl, _, _, hs⟩ := Go.ChangeMaps.open_string hu hv h
  refine ⟨s.data.toList, by simpa using hs, ?_⟩
  have := VR.str (w := w) (O := noO) s.data.toList
  simpa using this
end
/-- The elements of a list, decoded. -/
theorem TV_list {α : Type} {e : PT} {en : α → PV} {r : Bool} (he : ∀ x : PV, TV e x.cells → (r = true → ∃ c, x = .agg c) → (r = false → x.cells = [x]) → ∃ a, x = en a) {l : List PV} (h : TV (.list r e) l) : ∃ xs : List α, l = [.list .any (xs.map en)] ∧ xs.length ≤ maxLen := by
  obtain ⟨ys, rfl, hn, hy⟩ := h
  have : ∃ xs : List α, ys = xs.map en := by
    clear hn
    induction ys with
    | nil => exact ⟨[], rfl⟩
    | cons y ys ih =>
      obtain ⟨xs, rfl⟩ := ih (fun x hx => hy x (List.mem_cons_of_mem _ hx))
      obtain ⟨h1, h2, h3⟩ := hy y List.mem_cons_self
      obtain ⟨a, rfl⟩ := he y h1 h2 h3
      exact ⟨a :: xs, rfl⟩
  obtain ⟨xs, rfl⟩ := this
  exact ⟨xs, rfl, by simpa using hn⟩
theorem TV_rows {α : Type} {e : PT} {en : α → PV} (he : ∀ c, TV e c → ∃ a, PV.agg c = en a) {l : List PV} (h : TV (.list true e) l) : ∃ xs : List α, l = [.list .any (xs.map en)] ∧ xs.length ≤ maxLen :=
  TV_list (fun x h1 h2 _ => by
    obtain ⟨c, rfl⟩ := h2 rfl
    exact he c h1) h
/-- Arguments in a row. -/
theorem VRs.nil {w : World} {O : Nat → Prop} : VRs w O #[] [] := ⟨rfl, fun i v p h => by simp at h⟩
theorem VRs.mk1 {w : World} {O : Nat → Prop} {v : Value} {p : PV} (h : VR w O v p) : VRs w O #[v] [p] := ⟨rfl, fun i v' p' h1 h2 => by
  match i with
  | 0 => simp at h1 h2; subst h1; subst h2; exact h
  | i + 1 => simp at h1⟩
theorem VRs.mk2 {w : World} {O : Nat → Prop} {v v' : Value} {p p' : PV} (h : VR w O v p) (h' : VR w O v' p') : VRs w O #[v, v'] [p, p'] := ⟨rfl, fun i u q h1 h2 => by
  match i with
  | 0 => simp at h1 h2; subst h1; subst h2; exact h
  | 1 => simp at h1 h2; subst h1; subst h2; exact h'
  | i + 2 => simp at h1⟩
theorem VRs.mk3 {w : World} {O : Nat → Prop} {v v' v'' : Value} {p p' p'' : PV} (h : VR w O v p) (h' : VR w O v' p') (h'' : VR w O v'' p'') : VRs w O #[v, v', v''] [p, p', p''] := ⟨rfl, fun i u q h1 h2 => by
  match i with
  | 0 => simp at h1 h2; subst h1; subst h2; exact h
  | 1 => simp at h1 h2; subst h1; subst h2; exact h'
  | 2 => simp at h1 h2; subst h1; subst h2; exact h''
  | i + 3 => simp at h1⟩
theorem VRs.mk4 {w : World} {O : Nat → Prop} {v v' v'' v3 : Value} {p p' p'' p3 : PV} (h : VR w O v p) (h' : VR w O v' p') (h'' : VR w O v'' p'') (h3 : VR w O v3 p3) : VRs w O #[v, v', v'', v3] [p, p', p'', p3] := ⟨rfl, fun i u q h1 h2 => by
  match i with
  | 0 => simp at h1 h2; subst h1; subst h2; exact h
  | 1 => simp at h1 h2; subst h1; subst h2; exact h'
  | 2 => simp at h1 h2; subst h1; subst h2; exact h''
  | 3 => simp at h1 h2; subst h1; subst h2; exact h3
  | i + 4 => simp at h1⟩
/-- A pure call that answers true. -/
theorem PPure.law {P : Program} {f : FuncId} {as : List PV} (h : PPure P f as (.bool true)) {w : World} {vs : Array Value} (hv : VRs w noO vs as) :
    Calls P f vs w fun e w' => e = .returned (.bool true) ∧ Below w.heap.size w w' :=
  (h.2 w noO vs (fun b hb => hb.elim) hv).mono fun e w' ⟨v, he, hb, hr⟩ => by
    have := hr.bool_inv
    subst this
    exact ⟨he, hb⟩
end Go.Proofs.Ytloecggdboingaa
