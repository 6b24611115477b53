/- Part 1 of the proof: what the claim needs of the framework, the contracts of functions, and the laws. No conditions. -/
import Derived.Below
import Derived.Orders
import Derived.Laws.Entries
import Derived.Laws.Cells
import Derived.Laws.CopyRow
import Derived.Deep.MidRow
import Derived.Laws.Slices
import Derived.Laws.Build
import Derived.Laws.StructEq
import Derived.Laws.Concat
import Derived.Laws.Strings
import Derived.Laws.Tables
import Derived.Lib.ConvBytes
import Derived.Laws.MakeOwn
import Derived.Deep.AppendSrc
import Derived.Laws.IdiomStrings
import Derived.Lib.BufferRead
import Derived.Laws.Runes
namespace Go.Proofs.Ythdgdngdfijfhaa
open Go.RowKit
set_option linter.unusedVariables false
inductive Lab where
  | real (b : Nat)
  | ghost (n : Nat)
  deriving DecidableEq
def Lab.isG : Lab → Bool
  | .real _ => false
  | .ghost _ => true
inductive LK where
  | any | full | nil | made
  deriving DecidableEq
def LK.loose : LK → Bool
  | .any | .made => true
  | .full | .nil => false
inductive PV where
  | undef
  | bool (b : Bool)
  | int (k : IntKind) (n : Int)
  | str (s : List UInt8)
  | list (k : LK) (xs : List PV)
  | arr (l : Lab) (sz lo len : Nat)
  | ref (l : Lab) (sz i off : Nat)
  | cptr (cs : List PV)
  | nilp
  | fn (f : Nat) (caps : List PV)
  | nilf
  | agg (cs : List PV)
  | tup (vs : List PV)
  | iface (t : Nat) (v : PV)
  | nili
  | mapr (l : Lab)
  | nilm
  | bfn (f : Nat) (fs : List PV)
  | tagp (q : Bool) (b t n : Nat)
  | tags (b t n : Nat)
def PV.cells : PV → List PV
  | .agg cs => cs
  | v => [v]
def flat (xs : List PV) : List PV := xs.flatMap PV.cells
inductive VR (w : World) (O : Nat → Prop) : Value → PV → Prop where
  | undef (v) : VR w O v .undef
  | bool (b) : VR w O (.bool b) (.bool b)
  | int (k n) : VR w O (.int k n) (.int k n)
  | str (s : List UInt8) : VR w O (.string ⟨s.toArray⟩) (.str s)
  | list (k : LK) (xs : List PV) (a : Option Addr) (cap sz : Nat) (cs : List Value)
      (hcap : xs.length ≤ cap) (hnil : k = .nil → a = none ∧ cap = 0) (hfull : (k = .full → cap = xs.length) ∧ (k = .made → a ≠ none) ∧ (a = none → cap = 0))
      (hlen : cs.length = (flat xs).length) (hsz : ∀ x ∈ xs, x.cells.length = sz)
      (hmem : xs ≠ [] → ∃ b o, a = some ⟨b, o, none⟩ ∧ b < w.heap.size ∧ ¬ O b ∧ w.rangeAt b o cs)
      (hel : ∀ (i : Nat) v p, cs[i]? = some v → (flat xs)[i]? = some p → VR w O v p) :
      VR w O (.slice a xs.length cap) (.list k xs)
  | arr0 (l : Lab) (sz lo : Nat) (a : Option Addr) : VR w O (.slice a 0 0) (.arr l sz lo 0)
  | arr (b sz lo len cap : Nat) (cs : Array Value) (t : TypeId) (fr : Nat × Nat) (hcap : len ≤ cap)
      (hb : w.heap[b]? = some (.cells cs t fr)) (hfit : (lo + cap) * sz ≤ cs.size) :
      VR w O (.slice (some ⟨b, lo * sz, none⟩) len cap) (.arr (.real b) sz lo len)
  | ref (b sz i off : Nat) : VR w O (.pointer (some ⟨b, i * sz + off, none⟩)) (.ref (.real b) sz i off)
  | cptr (b o : Nat) (ps : List PV) (cs : List Value) (hlt : b < w.heap.size) (hO : ¬ O b) (hlen : cs.length = ps.length) (hmem : w.rangeAt b o cs)
      (hel : ∀ (i : Nat) v p, cs[i]? = some v → ps[i]? = some p → VR w O v p) : VR w O (.pointer (some ⟨b, o, none⟩)) (.cptr ps)
  | nilp : VR w O (.pointer none) .nilp
  | fn (f : Nat) (ps : List PV) (vs : Array Value) (hlen : vs.size = ps.length)
      (hel : ∀ (i : Nat) v p, vs[i]? = some v → ps[i]? = some p → VR w O v p) : VR w O (.func (.func f) #[] vs) (.fn f ps)
  | nilf : VR w O .nilFunc .nilf
  | agg (ps : List PV) (vs : Array Value) (hlen : vs.size = ps.length)
      (hel : ∀ (i : Nat) v p, vs[i]? = some v → ps[i]? = some p → VR w O v p) : VR w O (.agg vs) (.agg ps)
  | tup (ps : List PV) (vs : Array Value) (hlen : vs.size = ps.length)
      (hel : ∀ (i : Nat) v p, vs[i]? = some v → ps[i]? = some p → VR w O v p) : VR w O (.tuple vs) (.tup ps)
  | iface (t : Nat) (v p) (h : VR w O v p) : VR w O (.iface t v) (.iface t p)
  | nili : VR w O .nilIface .nili
  | mapr (b : Nat) : VR w O (.map (some b)) (.mapr (.real b))
  | nilm : VR w O (.map none) .nilm
  | bfn (f : Nat) (ps : List PV) (vs : Array Value) (hlen : vs.size = ps.length)
      (hel : ∀ (i : Nat) v p, vs[i]? = some v → ps[i]? = some p → VR w O v p) : VR w O (.func (.func f) vs #[]) (.bfn f ps)
  | tagp (q : Bool) (b t n : Nat) (cs : Array Value) (fr : Nat × Nat) (hb : w.heap[b]? = some (.cells cs t fr)) (hn : cs.size = n) : VR w O (.pointer (if q then some ⟨b, 0, none⟩ else none)) (.tagp q b t n)
  | tags (b t n cap : Nat) (cs : Array Value) (fr : Nat × Nat) (hb : w.heap[b]? = some (.cells cs t fr)) (hn : cs.size = cap) (hc : n ≤ cap) (hm : cap ≤ maxLen) : VR w O (.slice (some ⟨b, 0, none⟩) n cap) (.tags b t n)
structure Fr (w : World) (O : Nat → Prop) (w' : World) : Prop where
  os : w'.os = w.os
  tape : w'.tape = w.tape
  output : w'.output = w.output
  size : w.heap.size ≤ w'.heap.size
  block : ∀ b, b < w.heap.size → ¬ O b → w'.heap[b]? = w.heap[b]?
  shape : ∀ (b : Nat) cs t fr, w.heap[b]? = some (Obj.cells cs t fr) → ∃ cs' fr', w'.heap[b]? = some (.cells cs' t fr') ∧ cs'.size = cs.size
theorem Fr.refl (w : World) (O : Nat → Prop) : Fr w O w := ⟨rfl, rfl, rfl, Nat.le_refl _, fun _ _ _ => rfl, fun _ cs _ fr h => ⟨cs, fr, h, rfl⟩⟩
theorem Fr.trans {a b c : World} {O O' : Nat → Prop} (h : Fr a O b) (k : Fr b O' c) (hO : ∀ x, x < a.heap.size → O' x → O x) : Fr a O c :=
  ⟨k.os.trans h.os, k.tape.trans h.tape, k.output.trans h.output, Nat.le_trans h.size k.size,
   fun x hx hn => (k.block x (Nat.lt_of_lt_of_le hx h.size) (fun e => hn (hO x hx e))).trans (h.block x hx hn),
   fun x cs t fr e => by
    obtain ⟨cs', fr', e', hs⟩ := h.shape x cs t fr e
    obtain ⟨cs'', fr'', e'', hs'⟩ := k.shape x cs' t fr' e'
    exact ⟨cs'', fr'', e'', hs'.trans hs⟩⟩
theorem Fr.weaken {a b : World} {O O' : Nat → Prop} (h : Fr a O b) (hO : ∀ x, x < a.heap.size → O x → O' x) : Fr a O' b :=
  ⟨h.os, h.tape, h.output, h.size, fun x hx hn => h.block x hx (fun e => hn (hO x hx e)), h.shape⟩
theorem lt_of_block {w : World} {b : Nat} {o : Obj} (h : w.heap[b]? = some o) : b < w.heap.size := (Array.getElem?_eq_some_iff.1 h).1
theorem Fr.below {w w' : World} (h : Fr w (fun _ => False) w') : Below w.heap.size w w' :=
  ⟨h.os, h.tape, h.output, h.size, fun k hk => h.block k hk (fun e => e)⟩
theorem Fr.of_below {w w' : World} (h : Below w.heap.size w w') (O : Nat → Prop) : Fr w O w' :=
  ⟨h.os, h.tape, h.output, h.size, fun b hb _ => h.block b hb, fun b cs t fr e => ⟨cs, fr, (h.block b (lt_of_block e)).trans e, rfl⟩⟩
theorem Fr.drew (w : World) (O : Nat → Prop) : Fr w O { w with drawn := w.drawn + 1 } :=
  ⟨rfl, rfl, rfl, Nat.le_refl _, fun _ _ _ => rfl, fun _ cs _ fr h => ⟨cs, fr, h, rfl⟩⟩
theorem cell_lt {w : World} {b o : Nat} {v : Value} (h : w.cell? ⟨b, o, none⟩ = some v) : b < w.heap.size := by
  unfold World.cell? at h
  cases e : w.heap[b]? with
  | none => simp [e] at h
  | some x => exact lt_of_block e
theorem rangeAt_keep {w w' : World} {b o : Nat} {cs : List Value} (h : w.rangeAt b o cs) (hb : b < w.heap.size → w'.heap[b]? = w.heap[b]?) : w'.rangeAt b o cs := by
  intro j v hv
  have := h j v hv
  have hlt := cell_lt this
  unfold World.cell? at this ⊢
  simp only [hb hlt]
  exact this
theorem lt_keep {w w' : World} {b : Nat} (h : b < w.heap.size) (e : w'.heap[b]? = w.heap[b]?) : b < w'.heap.size := by
  rw [Array.getElem?_eq_getElem h] at e
  exact lt_of_block e
theorem VR.mono {w w' : World} {O O' : Nat → Prop} (hb : ∀ b, b < w.heap.size → ¬ O b → w'.heap[b]? = w.heap[b]?)
    (hO : ∀ b, b < w.heap.size → O' b → O b)
    (hs : ∀ (b : Nat) cs t fr, w.heap[b]? = some (Obj.cells cs t fr) → ∃ cs' fr', w'.heap[b]? = some (.cells cs' t fr') ∧ cs'.size = cs.size)
    {v : Value} {p : PV} (h : VR w O v p) : VR w' O' v p := by
  induction h with
  | undef v => exact .undef v
  | bool b => exact .bool b
  | int k n => exact .int k n
  | str s => exact .str s
  | list k xs a cap sz cs hcap hnil hfull hlen hsz hmem hel ih =>
    refine .list k xs a cap sz cs hcap hnil hfull hlen hsz (fun hne => ?_) ih
    obtain ⟨b, o, ha, hlt, hn, hr⟩ := hmem hne
    exact ⟨b, o, ha, lt_keep hlt (hb b hlt hn), fun e => hn (hO b hlt e), rangeAt_keep hr (fun _ => hb b hlt hn)⟩
  | arr0 l sz lo a => exact .arr0 l sz lo a
  | arr b sz lo len cap cs t fr hcap hbk hfit =>
    obtain ⟨cs', fr', e, hsz⟩ := hs b cs t fr hbk
    exact .arr b sz lo len cap cs' t fr' hcap e (by omega)
  | ref b sz i off => exact .ref b sz i off
  | cptr b o ps cs hlt hn hlen hmem hel ih =>
    exact .cptr b o ps cs (lt_keep hlt (hb b hlt hn)) (fun e => hn (hO b hlt e)) hlen (rangeAt_keep hmem (fun _ => hb b hlt hn)) ih
  | nilp => exact .nilp
  | fn f ps vs hlen hel ih => exact .fn f ps vs hlen ih
  | nilf => exact .nilf
  | agg ps vs hlen hel ih => exact .agg ps vs hlen ih
  | tup ps vs hlen hel ih => exact .tup ps vs hlen ih
  | iface t v p _ ih => exact .iface t v p ih
  | nili => exact .nili
  | mapr b => exact .mapr b
  | nilm => exact .nilm
  | bfn f ps vs hlen hel ih => exact .bfn f ps vs hlen ih
  | tagp q b t n cs fr hbk hn =>
    obtain ⟨cs', fr', e, hsz⟩ := hs b cs t fr hbk
    exact .tagp q b t n cs' fr' e (by omega)
  | tags b t n cap cs fr hbk hn hc hm =>
    obtain ⟨cs', fr', e, hsz⟩ := hs b cs t fr hbk
    exact .tags b t n cap cs' fr' e (by omega) hc hm
end Go.Proofs.Ythdgdngdfijfhaa
namespace Go.Proofs.Ythdgdngdfijfhaa
open Go.RowKit
set_option linter.unusedVariables false
inductive Chunk where
  | row (m : Bool) (sz : Nat) (xs : List PV)
abbrev Hp := Lab → Option Chunk
def upd {α β : Type} [DecidableEq α] (f : α → β) (a : α) (b : β) : α → β := fun x => if x = a then b else f x
@[simp] theorem upd_same {α β : Type} [DecidableEq α] (f : α → β) (a : α) (b : β) : upd f a b a = b := by simp [upd]
theorem upd_ne {α β : Type} [DecidableEq α] (f : α → β) {a x : α} (b : β) (h : x ≠ a) : upd f a b x = f x := by simp [upd, h]
theorem upd_apply {α β : Type} [DecidableEq α] (f : α → β) (a x : α) (b : β) : upd f a b x = if x = a then b else f x := rfl
def own (H : Hp) (b : Nat) : Prop := ∃ sz xs, H (.real b) = some (.row true sz xs)
def both (X : Nat → Prop) (H : Hp) (b : Nat) : Prop := X b ∨ own H b
structure GP where
  N : Nat
  G : Nat → Prop
def GB (H : Hp) : Prop := ∃ B, ∀ g, B ≤ g → H (.ghost g) = none
def Gs (γ : GP) (H : Hp) : Prop := (∀ g c, H (.ghost g) = some c → γ.G g ∨ γ.N ≤ g) ∧ GB H
def PV.isDef : PV → Bool
  | .undef => false
  | _ => true
def HR (w : World) (X : Nat → Prop) (H : Hp) : Prop :=
  ∀ l m sz xs, H l = some (.row m sz xs) → (∀ x ∈ xs, x.cells.length = sz) ∧
    match l with
    | .real b => ¬ X b ∧ ∃ cs t, w.heap[b]? = some (.cells cs t (0, 0)) ∧ (flat xs).length ≤ cs.size ∧
        ∀ (i : Nat) v p, cs[i]? = some v → (flat xs)[i]? = some p → VR w (both X H) v p
    | .ghost _ => xs = []
mutual
def closedB (keep : Bool) : PV → Bool
  | .undef | .bool _ | .int _ _ | .str _ | .nilp | .nilf | .nili | .nilm => true
  | .list k xs => (keep || k == .any) && closedL keep xs
  | .arr .. | .ref .. | .mapr _ | .tagp .. | .tags .. => false
  | .cptr cs => closedL keep cs
  | .fn _ cs => closedL keep cs
  | .bfn _ cs => closedL keep cs
  | .agg cs => closedL keep cs
  | .tup cs => closedL keep cs
  | .iface _ v => closedB keep v
def closedL (keep : Bool) : List PV → Bool
  | [] => true
  | x :: xs => closedB keep x && closedL keep xs
end
mutual
def scalarB : PV → Bool
  | .undef | .bool _ | .int _ _ | .str _ | .nilp | .nilf | .nili | .nilm => true
  | .list _ _ | .arr .. | .ref .. | .mapr _ | .cptr _ | .fn _ _ | .bfn _ _ | .iface _ _ | .tagp .. | .tags .. => false
  | .agg cs => scalarL cs
  | .tup cs => scalarL cs
def scalarL : List PV → Bool
  | [] => true
  | x :: xs => scalarB x && scalarL xs
end
theorem closedL_eq (keep : Bool) (xs : List PV) : closedL keep xs = xs.all (closedB keep) := by
  induction xs with
  | nil => rfl
  | cons x xs ih => simp [closedL, ih]
theorem scalarL_eq (xs : List PV) : scalarL xs = xs.all scalarB := by
  induction xs with
  | nil => rfl
  | cons x xs ih => simp [scalarL, ih]
def normStep (keep : Bool) (H : Hp) (F : PV → Option PV) : PV → Option PV
  | .list k xs => (xs.mapM F).map (.list (if keep then k else .any))
  | .arr l sz lo len => match H l with
    | some (.row _ sz' xs) => if sz = sz' ∧ lo + len ≤ xs.length then (((xs.drop lo).take len).mapM F).map (.list .any) else none
    | none => none
  | .ref l sz i off => match H l with
    | some (.row _ sz' xs) => if sz = sz' then (xs[i]?).bind fun x => ((x.cells.drop off).mapM F).map .cptr else none
    | none => none
  | .cptr cs => (cs.mapM F).map .cptr
  | .fn f cs => (cs.mapM F).map (.fn f)
  | .bfn f cs => (cs.mapM F).map (.bfn f)
  | .agg cs => (cs.mapM F).map .agg
  | .tup cs => (cs.mapM F).map .tup
  | .iface t v => (F v).map (.iface t)
  | _ => none
def norm (keep : Bool) (H : Hp) : Nat → PV → Option PV
  | 0, _ => none
  | n + 1, v => if closedB keep v then some v else normStep keep H (norm keep H n) v
def restr (L : List Lab) (H : Hp) : Hp := fun l => if l ∈ L then H l else none
def Chunk.frz : Chunk → Chunk
  | .row _ sz xs => .row false sz xs
def frz (L : List Lab) (H : Hp) : Hp := fun l => if l ∈ L then (H l).map Chunk.frz else H l
def callable (P : Program) (f : FuncId) : Bool :=
  match P.funcs[f]? with
  | some fn => fn.name != "runtime.NumGoroutine" && fn.body.isSome
  | none => false
def VRs (w : World) (O : Nat → Prop) (vs : Array Value) (ps : List PV) : Prop :=
  vs.size = ps.length ∧ ∀ (i : Nat) v p, vs[i]? = some v → ps[i]? = some p → VR w O v p
def PPure (P : Program) (f : FuncId) (as : List PV) (r : PV) : Prop :=
  callable P f = true ∧ ∀ (w : World) (X : Nat → Prop) (vs : Array Value), (∀ b, X b → b < w.heap.size) → VRs w X vs as →
    Calls P f vs w fun e w' => ∃ v, e = .returned v ∧ Below w.heap.size w w' ∧ VR w' X v r
def CallsG (P : Program) (f : FuncId) (as : List PV) (H : Hp) (K : PV → Hp → Prop) : Prop :=
  callable P f = true ∧ ∀ (N : Nat) (w : World) (X : Nat → Prop) (vs : Array Value), (∀ b, X b → b < w.heap.size) → HR w X H → GB H → VRs w (both X H) vs as →
    Calls P f vs w fun e w' => ∃ v r H', e = .returned v ∧ Fr w (own H) w' ∧ HR w' X H' ∧ (∀ b, own H' b → own H b ∨ w.heap.size ≤ b) ∧
      VR w' (both X H') v r ∧ Gs ⟨N, fun g => (H (.ghost g)).isSome = true⟩ H' ∧ K r H'
def CallOK (P : Program) (f : FuncId) (as : List PV) (H : Hp) (K : PV → Hp → Prop) : Prop :=
  (∃ keep n as' r, as.mapM (norm keep H n) = some as' ∧ scalarB r = true ∧ PPure P f as' r ∧ K r H) ∨
  (∃ keep n L as' r, as.mapM (norm keep (restr L H) n) = some as' ∧ PPure P f as' r ∧ K r (frz L H)) ∨
  CallsG P f as H K
def CallQ (P : Program) (f : FuncId) (as : List PV) (Hr : Hp) (K : PV → Prop) : Prop :=
  (∃ keep n as' r, as.mapM (norm keep Hr n) = some as' ∧ scalarB r = true ∧ PPure P f as' r ∧ K r) ∨
  (∃ keep n as' r, as.mapM (norm keep (restr [] Hr) n) = some as' ∧ PPure P f as' r ∧ K r)
def CallN (P : Program) (f : FuncId) (as : List PV) (sz : Nat) (xs : List PV) : Prop :=
  CallsG P f as (fun _ => none) fun r H' => ∃ l, r = .arr l sz 0 xs.length ∧ H' l = some (.row true sz xs)
structure St where
  env : Nat → PV
  H : Hp
def ofCell : Value → PV
  | .bool b => .bool b
  | .int k n => .int k n
  | .string s => .str s.data.toList
  | .slice none 0 0 => .list .nil []
  | .pointer none => .nilp
  | .nilFunc => .nilf
  | .nilIface => .nili
  | .map none => .nilm
  | _ => .undef
def ofValue : Value → PV
  | .agg cs => .agg (cs.toList.map ofCell)
  | v => ofCell v
def evo (s : St) : Operand → PV
  | .tmp t => s.env t
  | .const v => ofValue v
  | .func f => .fn f []
  | .global _ => .undef
def St.put (s : St) (d : Option Tmp) (v : PV) : St :=
  match d with
  | some d => { s with env := upd s.env d v }
  | none => s
def tzero (P : Program) (t : TypeId) : Option PV := ((P.info? t).bind (·.zero)).map ofValue
def loadCs (P : Program) (t : TypeId) (cs : List PV) (off : Nat) : Option PV :=
  match P.underlying t with
  | some (.struct _) | some (.array _ _) => if off + P.cellsOf t ≤ cs.length then some (.agg ((cs.drop off).take (P.cellsOf t))) else none
  | some _ => cs[off]?
  | none => none
def splice {α : Type} (cs : List α) (off : Nat) (new : List α) : List α := cs.take off ++ new ++ cs.drop (off + new.length)
def fillP (place : Nat → Option (Nat × Nat)) (cells : List PV) : List (Nat × PV) → Option (List PV)
  | [] => some cells
  | (i, v) :: rest =>
    match place i with
    | none => none
    | some (off, size) =>
      if v.isDef = true ∧ v.cells.length = size ∧ off + v.cells.length ≤ cells.length then fillP place (splice cells off v.cells) rest else none
def strCmp (op : BinOp) (a b : List UInt8) : Option PV :=
  match op with
  | .add => if ((a.length + b.length : Nat) : Int) ≤ 9223372036854775807 then some (.str (a ++ b)) else none
  | .eql => some (.bool (a == b))
  | .neq => some (.bool (!(a == b)))
  | .lss => some (.bool (Op.bytesLess a b))
  | .leq => some (.bool (Op.bytesLess a b || a == b))
  | .gtr => some (.bool (!(Op.bytesLess a b || a == b)))
  | .geq => some (.bool (!Op.bytesLess a b))
  | _ => none
def intCmpB (op : BinOp) (a b : Int) : Option Bool :=
  match op with
  | .eql => some (decide (a = b))
  | .neq => some (decide (a ≠ b))
  | .lss => some (decide (a < b))
  | .leq => some (decide (a ≤ b))
  | .gtr => some (decide (b < a))
  | .geq => some (decide (b ≤ a))
  | _ => none
def intBin (op : BinOp) (k : IntKind) (a b : Int) : Option PV :=
  match op with
  | .add => some (.int k (k.wrap (a + b)))
  | .sub => some (.int k (k.wrap (a - b)))
  | .mul => some (.int k (k.wrap (a * b)))
  | .quo => if b = 0 then none else some (.int k (k.wrap (a.tdiv b)))
  | .rem => if b = 0 then none else some (.int k (a.tmod b))
  | .and => some (.int k (k.wrap (BitVec.ofInt k.bits a &&& BitVec.ofInt k.bits b).toNat))
  | .or => some (.int k (k.wrap (BitVec.ofInt k.bits a ||| BitVec.ofInt k.bits b).toNat))
  | .xor => some (.int k (k.wrap (BitVec.ofInt k.bits a ^^^ BitVec.ofInt k.bits b).toNat))
  | .andNot => some (.int k (k.wrap (BitVec.ofInt k.bits a &&& ~~~BitVec.ofInt k.bits b).toNat))
  | _ => (intCmpB op a b).map .bool
def cellsEq : List PV → List PV → Option Bool
  | [], [] => some true
  | .bool a :: xs, .bool b :: ys => (cellsEq xs ys).map fun r => (a == b) && r
  | .int _ a :: xs, .int _ b :: ys => (cellsEq xs ys).map fun r => decide (a = b) && r
  | .str a :: xs, .str b :: ys => (cellsEq xs ys).map fun r => (a == b) && r
  | _, _ => none
inductive CK where
  | b
  | i (k : IntKind)
  | s
  deriving DecidableEq
def PV.ck : PV → Option CK
  | .bool _ => some .b
  | .int k _ => some (.i k)
  | .str _ => some .s
  | _ => none
def fkinds (P : Program) (F : TypeId → Option (List CK)) : List Field → Nat → Option (List CK)
  | [], _ => some []
  | f :: fs, o => if f.name ≠ "_" ∧ f.offset = o then (F f.type).bind fun ks => if ks.length = P.cellsOf f.type then (fkinds P F fs (o + ks.length)).map (ks ++ ·) else none else none
def tkinds (P : Program) : Nat → TypeId → Option (List CK)
  | 0, _ => none
  | n + 1, t =>
    match P.underlying t with
    | some .bool => some [.b]
    | some (.int k) => some [.i k]
    | some .string => some [.s]
    | some (.struct fs) => if P.stoodInHeld t then none else fkinds P (tkinds P n) fs.toList 0
    | _ => none
def flatEq (P : Program) (t : TypeId) : Option (List CK) :=
  match P.underlying t with
  | some (.struct _) => if P.eqGuardType P.depth t then none else tkinds P 8 t
  | _ => none
def pvBin (P : Program) (op : BinOp) (t : TypeId) : PV → PV → Option PV
  | .int k a, .int k' b =>
    match op with
    | .shl => if b < 0 then none else some (.int k (k.wrap (a * 2 ^ (min b.toNat k.bits))))
    | .shr => if b < 0 then none else some (.int k (a.fdiv (2 ^ (min b.toNat k.bits))))
    | _ => if k = k' then intBin op k a b else none
  | .str a, .str b => strCmp op a b
  | .bool a, .bool b =>
    match P.underlying t, op with
    | some .bool, .eql => some (.bool (a == b))
    | some .bool, .neq => some (.bool (!(a == b)))
    | _, _ => none
  | .list k xs, .list .nil [] =>
    match P.underlying t, op with
    | some (.slice _), .eql => if k = .nil then some (.bool true) else if k = .made ∨ xs ≠ [] then some (.bool false) else none
    | some (.slice _), .neq => if k = .nil then some (.bool false) else if k = .made ∨ xs ≠ [] then some (.bool true) else none
    | _, _ => none
  | .agg xs, .agg ys =>
    match flatEq P t with
    | some ks => if xs.map PV.ck = ks.map some ∧ ys.map PV.ck = ks.map some then
        match op with
        | .eql => (cellsEq xs ys).map fun b => .bool b
        | .neq => (cellsEq xs ys).map fun b => .bool (!b)
        | _ => none
      else none
    | none => none
  | _, _ => none
def pvUn (op : UnOp) : PV → Option PV
  | .bool b => match op with
    | .not => some (.bool (!b))
    | _ => none
  | .int k n => match op with
    | .neg => some (.int k (k.wrap (0 - n)))
    | .xor => some (.int k (k.wrap (BitVec.ofInt k.bits (if k.signed then -1 else k.max) ^^^ BitVec.ofInt k.bits n).toNat))
    | _ => none
  | _ => none
def pvConv (P : Program) (src dst : TypeId) : PV → Option PV
  | .int _ n => match P.underlying src, P.underlying dst with
    | some _, some (.int k) => some (.int k (k.wrap n))
    | _, _ => none
  | .str l => match P.underlying src, P.underlying dst with
    | some .string, some .string => some (.str l)
    | _, _ => none
  | _ => none
def pvConvB (P : Program) (src dst : TypeId) : PV → Option PV
  | .str l => match P.underlying src, P.underlying dst with
    | some _, some (.slice e) => match P.underlying e with
      | some (.int .u8) => some (.list .any (l.map fun b => .int .u8 (b.toNat : Int)))
      | _ => none
    | _, _ => none
  | _ => none
def rowOf (H : Hp) (l : Lab) (sz : Nat) : Option (List PV) :=
  match H l with
  | some (.row _ sz' xs) => if sz = sz' then some xs else none
  | none => none
def ownRow (H : Hp) (l : Lab) (sz : Nat) : Option (List PV) :=
  match H l with
  | some (.row true sz' xs) => if sz = sz' then some xs else none
  | _ => none
def goodT (P : Program) (t : TypeId) : Bool :=
  match P.underlying t with
  | some (.struct fs) => fs.toList.all fun f => (P.info? f.type).isSome
  | some (.array _ e) | some (.slice e) => (P.info? e).isSome
  | _ => false
def boundOf (s : St) (dflt : Nat) : Option Operand → Option Int
  | none => some dflt
  | some x => match evo s x with
    | .int _ n => some n
    | _ => none
def sliceK : LK → List PV → LK
  | .full, [] => .full
  | .nil, [] => .full
  | _, _ => .any
def pvSlice (P : Program) (s : St) (t : TypeId) (x : PV) (lo hi mx : Option Operand) : Option PV :=
  match P.underlying t, x with
  | some .string, .str l =>
    (boundOf s 0 lo).bind fun a => (boundOf s l.length hi).bind fun b =>
      if mx.isNone = true ∧ 0 ≤ a ∧ a ≤ b ∧ b ≤ l.length then some (.str ((l.take b.toNat).drop a.toNat)) else none
  | some (.slice e), .list k xs =>
    (boundOf s 0 lo).bind fun a => (boundOf s xs.length hi).bind fun b =>
      match mx with
      | none => if 0 ≤ a ∧ a ≤ b ∧ b ≤ xs.length ∧ xs.all (fun x => x.cells.length == P.cellsOf e) = true ∧ P.cellsOf e ≠ 0 then some (.list (sliceK k xs) ((xs.take b.toNat).drop a.toNat)) else none
      | some m => match evo s m with
        | .int _ c => if 0 ≤ a ∧ a ≤ b ∧ b = c ∧ b ≤ xs.length ∧ xs.all (fun x => x.cells.length == P.cellsOf e) = true ∧ hi.isSome = true ∧ P.cellsOf e ≠ 0 then some (.list .full ((xs.take b.toNat).drop a.toNat)) else none
        | _ => none
  | some (.slice e), .arr l sz lo' len =>
    (boundOf s 0 lo).bind fun a => (boundOf s len hi).bind fun b =>
      if mx.isNone = true ∧ 0 ≤ a ∧ a ≤ b ∧ b ≤ len ∧ sz = P.cellsOf e ∧ P.cellsOf e ≠ 0 then some (.arr l sz (lo' + a.toNat) (b - a).toNat) else none
  | _, _ => none
def pvMinMax (mx : Bool) : List PV → Option PV
  | [.int k a, .int _ b] => some (.int k (if mx then (if a < b then b else a) else (if b < a then b else a)))
  | _ => none
def opVal (P : Program) (s : St) : Op → Option PV
  | .move x | .assign x => some (evo s x)
  | .pick c a b => match evo s c with
    | .bool t => some (if t then evo s a else evo s b)
    | _ => none
  | .binOp op t x y _ => pvBin P op t (evo s x) (evo s y)
  | .unOp op _ x => pvUn op (evo s x)
  | .convert a b x => match pvConv P a b (evo s x) with
    | some p => some p
    | none => pvConvB P a b (evo s x)
  | .extract x i => match evo s x with
    | .tup vs => vs[i]?
    | _ => none
  | .field t x f => match evo s x with
    | .agg cs => match P.underlying t with
      | some (.struct fs) => (fs[f]?).bind fun fd => loadCs P fd.type cs fd.offset
      | _ => none
    | _ => none
  | .makeFunc (.func f) fst caps => if fst.size = 0 then some (.fn f (caps.toList.map (evo s))) else if caps.size = 0 then some (.bfn f (fst.toList.map (evo s))) else none
  | .fieldAddr t x f => match P.underlying t with
    | some (.struct fs) => (fs[f]?).bind fun fd => if P.cellsOf fd.type = 0 then none else
      match evo s x with
      | .ref l sz i off => some (.ref l sz i (off + fd.offset))
      | .cptr cs => if fd.offset ≤ cs.length then some (.cptr (cs.drop fd.offset)) else none
      | _ => none
    | _ => none
  | .indexAddr t x ix => match evo s ix with
    | .int _ n => match P.underlying t, evo s x with
      | some (.slice e), .list _ xs => if 0 ≤ n ∧ n < xs.length then (xs[n.toNat]?).bind fun x => if x.cells.length = P.cellsOf e ∧ P.cellsOf e ≠ 0 then some (.cptr x.cells) else none else none
      | some (.slice e), .arr l sz lo len => if 0 ≤ n ∧ n < len ∧ sz = P.cellsOf e ∧ P.cellsOf e ≠ 0 then some (.ref l sz (lo + n.toNat) 0) else none
      | some (.array len e), .ref l sz i off => if 0 ≤ n ∧ n < len ∧ P.cellsOf e ≠ 0 then some (.ref l sz i (off + n.toNat * P.cellsOf e)) else none
      | some (.array len e), .cptr cs => if 0 ≤ n ∧ n < len ∧ n.toNat * P.cellsOf e ≤ cs.length ∧ P.cellsOf e ≠ 0 then some (.cptr (cs.drop (n.toNat * P.cellsOf e))) else none
      | _, _ => none
    | _ => none
  | .load t x => match evo s x with
    | .ref l sz i off => (rowOf s.H l sz).bind fun xs => (xs[i]?).bind fun x => loadCs P t x.cells off
    | .cptr cs => loadCs P t cs 0
    | _ => none
  | .index t x ix => match evo s x, evo s ix with
    | .str l, .int _ n => match P.underlying t with
      | some .string => if 0 ≤ n then (l[n.toNat]?).map fun b => .int .u8 (b.toNat : Int) else none
      | _ => none
    | .agg cs, .int _ n => match P.underlying t with
      | some (.array len e) => if 0 ≤ n ∧ n < len then loadCs P e cs (n.toNat * P.cellsOf e) else none
      | _ => none
    | _, _ => none
  | .build t parts => match P.underlying t with
    | some (.struct fs) => if goodT P t = false then none else (tzero P t).bind fun z =>
        (fillP (fun i => (fs[i]?).map fun f => (f.offset, P.cellsOf f.type)) z.cells (parts.toList.map fun q => (q.1, evo s q.2))).map .agg
    | some (.array _ e) => if goodT P t = false then none else (tzero P t).bind fun z =>
        (fillP (fun i => some (i * P.cellsOf e, P.cellsOf e)) z.cells (parts.toList.map fun q => (q.1, evo s q.2))).map .agg
    | _ => none
  | .buildSlice t len parts => match P.underlying t with
    | some (.slice e) =>
      let vs := parts.toList.map fun q => evo s q.2
      if parts.toList.map (·.1) = List.range len ∧ vs.all (fun v => v.isDef && v.cells.length == P.cellsOf e) = true ∧ len * P.cellsOf e ≤ 16777216 ∧ (tzero P e).isSome = true then
        some (.list .full vs) else none
    | _ => none
  | .slice t x lo hi mx => pvSlice P s t (evo s x) lo hi mx
  | .makeInterface t x => if P.concrete t = true then some (.iface t (evo s x)) else none
  | .call { callee := .builtin .len, args := args, argTypes := ts } => match ts[0]?, args[0]? with
    | some t, some x => match P.underlying t, evo s x with
      | some .string, .str l => some (.int .i64 (l.length : Int))
      | some (.slice _), .list _ xs => some (.int .i64 (xs.length : Int))
      | some (.slice _), .arr _ _ _ len => some (.int .i64 (len : Int))
      | _, _ => none
    | _, _ => none
  | .call { callee := .builtin .max, args := args, .. } => pvMinMax true (args.toList.map (evo s))
  | .call { callee := .builtin .min, args := args, .. } => pvMinMax false (args.toList.map (evo s))
  | .nilCheck x => match evo s x with
    | .ref l sz i off => some (.ref l sz i off)
    | .cptr cs => some (.cptr cs)
    | _ => none
  | _ => none
def PV.isCell : PV → Bool
  | .undef | .agg _ | .tup _ => false
  | _ => true
def srcT (P : Program) (t : TypeId) : Bool :=
  match P.underlying t with
  | some (.slice _) | some .string => true
  | _ => false
def roomB : Nat := 140737488355328
def itemsOf (H : Hp) : PV → Option (List PV)
  | .list _ ys => some ys
  | .str l => some (l.map fun b => .int .u8 (b.toNat : Int))
  | .arr l sz lo len => (rowOf H l sz).bind fun xs => if lo + len ≤ xs.length then some ((xs.drop lo).take len) else none
  | _ => none
def pvBytes : List PV → Option (List UInt8)
  | [] => some []
  | .int .u8 n :: xs => if 0 ≤ n ∧ n < 256 then (pvBytes xs).map (UInt8.ofNat n.toNat :: ·) else none
  | _ => none
def convS (P : Program) (s : St) : Op → Option PV
  | .convert a b x => match P.underlying a, P.underlying b with
    | some (.slice e), some .string => match P.underlying e with
      | some (.int .u8) => match evo s x with
        | .str _ => none
        | v => (itemsOf s.H v).bind fun ys => (pvBytes ys).map .str
      | _ => none
    | some (.int _), some .string => match evo s x with
      | .int _ n => if 0 ≤ n ∧ n < 128 then some (.str [UInt8.ofNat n.toNat]) else none
      | _ => none
    | _, _ => none
  | _ => none
def setC (e : PV) (off : Nat) (v : PV) : PV :=
  match e with
  | .agg c => .agg (splice c off v.cells)
  | _ => v
def ztag (t : Nat) (l : Lab) (z : PV) : PV :=
  match z, l with
  | .agg (.nilp :: r), .real b => .agg (.tagp false b t (r.length + 1) :: r)
  | z, _ => z
def PV.isAgg : PV → Bool
  | .agg _ => true
  | _ => false
def opEff (P : Program) (full : Bool) (s : St) (op : Op) (K : PV → Hp → Prop) : Prop :=
  match op with
  | .alloc t => ∃ z, tzero P t = some z ∧ z.isDef = true ∧
      ∀ l, l.isG = false → s.H l = none → K (.ref l z.cells.length 0 0) (upd s.H l (some (.row true z.cells.length [z]))) ∨ K (.ref l z.cells.length 0 0) (upd s.H l (some (.row true z.cells.length [ztag t l z])))
  | .box _ x => (evo s x).isDef = true ∧
      (K (.cptr (evo s x).cells) s.H ∨
       ∀ l, s.H l = none → K (.ref l (evo s x).cells.length 0 0) (upd s.H l (some (.row true (evo s x).cells.length [evo s x]))))
  | .store t a x => full = true ∧ ∃ l sz i off xs e, evo s a = .ref l sz i off ∧ ownRow s.H l sz = some xs ∧ xs[i]? = some e ∧
      (evo s x).isDef = true ∧ (evo s x).cells.all PV.isCell = true ∧ (evo s x).cells.length = P.cellsOf t ∧ P.cellsOf t ≠ 0 ∧ off + P.cellsOf t ≤ sz ∧ (e.isAgg = true ∨ (evo s x).isAgg = false) ∧
      K (.tup []) (upd s.H l (some (.row true sz (xs.set i (setC e off (evo s x))))))
  | .makeSlice t n c => ∃ e k k' a z, P.underlying t = some (.slice e) ∧ evo s n = .int k a ∧ evo s c = .int k' a ∧ tzero P e = some z ∧ z.isDef = true ∧
      z.cells.length = P.cellsOf e ∧ 0 ≤ a ∧ a.toNat * P.bytesOf e ≤ roomB ∧ a ≤ 9223372036854775807 ∧
      ∀ l, s.H l = none → K (.arr l z.cells.length 0 a.toNat) (upd s.H l (some (.row true z.cells.length (List.replicate a.toNat z))))
  | .call { callee := .builtin .append, args := args, argTypes := ts } =>
    ∃ t0 t1 x y e, ts = #[t0, t1] ∧ args = #[x, y] ∧ P.underlying t0 = some (.slice e) ∧ srcT P t1 = true ∧
    ∃ ys, itemsOf s.H (evo s y) = some ys ∧ (∀ v ∈ ys, v.cells.length = P.cellsOf e ∧ v.cells.all PV.isCell = true) ∧ (tzero P e).map (fun z => z.cells.length) = some (P.cellsOf e) ∧ 0 < P.cellsOf e ∧ 0 < P.bytesOf e ∧
    match evo s x with
    | .list k xs => k.loose = false ∧ (∀ v ∈ xs, v.cells.length = P.cellsOf e) ∧ (xs.length + ys.length) * P.bytesOf e ≤ roomB ∧
        (if ys = [] then K (evo s x) s.H else
          ∀ l, s.H l = none → K (.arr l (P.cellsOf e) 0 (xs.length + ys.length)) (upd s.H l (some (.row true (P.cellsOf e) (xs ++ ys)))))
    | .arr l sz lo len => full = true ∧ lo = 0 ∧ sz = P.cellsOf e ∧ (len + ys.length) * P.bytesOf e ≤ roomB ∧ ∃ xs, ownRow s.H l sz = some xs ∧ len ≤ xs.length ∧
        K (.arr l sz 0 (len + ys.length)) (upd s.H l (some (.row true sz (xs.take len ++ ys)))) ∧
        ∀ l', s.H l' = none → K (.arr l' sz 0 (len + ys.length)) (upd s.H l' (some (.row true sz (xs.take len ++ ys)))) ∨ K (.arr l' sz 0 (len + ys.length)) (upd (upd s.H l none) l' (some (.row true sz (xs.take len ++ ys))))
    | _ => False
  | .call { callee := .builtin .copy, args := args, argTypes := ts } =>
    full = true ∧ ∃ t0 t1 x y e, ts = #[t0, t1] ∧ args = #[x, y] ∧ P.underlying t0 = some (.slice e) ∧ srcT P t1 = true ∧
    ∃ l sz lo len xs ys, evo s x = .arr l sz lo len ∧ ownRow s.H l sz = some xs ∧ sz = P.cellsOf e ∧ lo + len ≤ xs.length ∧ itemsOf s.H (evo s y) = some ys ∧
      (∀ v ∈ ys, v.cells.length = sz ∧ v.cells.all PV.isCell = true) ∧ P.cellsOf e ≠ 0 ∧
      K (.int .i64 ((min ys.length len : Nat) : Int)) (upd s.H l (some (.row true sz (splice xs lo (ys.take len)))))
  | _ => False
def isEff : Op → Bool
  | .alloc _ | .box _ _ | .store .. | .makeSlice .. => true
  | .call { callee := .builtin .append, .. } | .call { callee := .builtin .copy, .. } => true
  | _ => false
def Top (P : Program) (o : Oper) (s : St) (K : St → Prop) : Prop :=
  match o.op with
  | .call { callee := .value g, args := args, .. } =>
    match evo s g with
    | .fn f caps => CallOK P f (args.toList.map (evo s) ++ caps) s.H fun r H' => K ({ s with H := H' }.put o.dst r)
    | .bfn f fs => CallOK P f (fs ++ args.toList.map (evo s)) s.H fun r H' => K ({ s with H := H' }.put o.dst r)
    | _ => False
  | op => if isEff op then opEff P true s op fun v H' => K ({ s with H := H' }.put o.dst v)
    else ∃ v, (opVal P s op = some v ∨ convS P s op = some v) ∧ K (s.put o.dst v)
def TopQ (P : Program) (o : Oper) (Hr : Hp) (s : St) (K : St → Prop) : Prop :=
  match o.op with
  | .call { callee := .value g, args := args, .. } =>
    match evo s g with
    | .fn f caps => (CallQ P f (args.toList.map (evo s) ++ caps) Hr fun r => K (s.put o.dst r)) ∨
        ∃ sz xs, CallN P f (args.toList.map (evo s) ++ caps) sz xs ∧ ∀ l, s.H l = none → K ({ s with H := upd s.H l (some (.row true sz xs)) }.put o.dst (.arr l sz 0 xs.length))
    | _ => False
  | .alloc t => ∃ z, tzero P t = some z ∧ z.isDef = true ∧
      ∀ l, s.H l = none → K ({ s with H := upd s.H l (some (.row true z.cells.length [z])) }.put o.dst (.ref l z.cells.length 0 0))
  | .box _ x => (evo s x).isDef = true ∧
      ∀ l, s.H l = none → K ({ s with H := upd s.H l (some (.row true (evo s x).cells.length [evo s x])) }.put o.dst (.ref l (evo s x).cells.length 0 0))
  | .call { callee := .builtin .append, args := args, argTypes := ts } =>
    ∃ t0 t1 x y e, ts = #[t0, t1] ∧ args = #[x, y] ∧ P.underlying t0 = some (.slice e) ∧ srcT P t1 = true ∧
    ∃ ys, itemsOf Hr (evo s y) = some ys ∧ (∀ v ∈ ys, v.cells.length = P.cellsOf e ∧ v.cells.all PV.isCell = true) ∧ (tzero P e).map (fun z => z.cells.length) = some (P.cellsOf e) ∧ 0 < P.cellsOf e ∧ 0 < P.bytesOf e ∧
    ((∃ k xs, evo s x = .list k xs ∧ k.loose = false ∧ (∀ v ∈ xs, v.cells.length = P.cellsOf e) ∧ (xs.length + ys.length) * P.bytesOf e ≤ roomB ∧
        (if ys = [] then K (s.put o.dst (.list k xs)) else
          ∀ l, s.H l = none → K ({ s with H := upd s.H l (some (.row true (P.cellsOf e) (xs ++ ys))) }.put o.dst (.arr l (P.cellsOf e) 0 (xs.length + ys.length))))) ∨
     (∃ l len xs, evo s x = .arr l (P.cellsOf e) 0 len ∧ Hr l = none ∧ ownRow s.H l (P.cellsOf e) = some xs ∧ len ≤ xs.length ∧ (len + ys.length) * P.bytesOf e ≤ roomB ∧
        ∀ l', (s.H l' = none ∨ l' = l) → K ({ s with H := upd s.H l' (some (.row true (P.cellsOf e) (xs.take len ++ ys))) }.put o.dst (.arr l' (P.cellsOf e) 0 (len + ys.length)))))
  | op => isEff op = false ∧ ∃ v, opVal P { s with H := Hr } op = some v ∧ K (s.put o.dst v)
def Tguard (ops : Array Oper) (o : Oper) (s : St) (yes no : Prop) : Prop :=
  match o.guard with
  | none => yes
  | some (j, want) => match (ops[j]?).bind (·.dst) with
    | some d => match s.env d with
      | .bool b => if b = want then yes else no
      | .tup [] => no
      | _ => False
    | none => False
def Tops (P : Program) (ops : Array Oper) : List Oper → St → (St → Prop) → Prop
  | [], s, K => K s
  | o :: rest, s, K => Tguard ops o s (Top P o s fun s' => Tops P ops rest s' K) (Tops P ops rest (s.put o.dst (.tup [])) K)
def isApp (o : Oper) : Bool :=
  match o.op with
  | .call { callee := .builtin .append, .. } => true
  | _ => false
def userCall (o : Oper) : Bool :=
  match o.op with
  | .call { callee := .value _, .. } => true
  | _ => false
def isAlloc (o : Oper) : Bool :=
  match o.op, o.guard with
  | .alloc _, none => true
  | _, _ => false
def allocOK (P : Program) (o : Oper) : Prop := ∀ t, o.op = .alloc t → ∃ z, tzero P t = some z ∧ z.isDef = true
def TopsD (P : Program) (z : Bool) (ops : Array Oper) : List (Oper × Bool) → Hp → St → (St → Prop) → Prop
  | [], _, s, K => K s
  | (o, true) :: rest, Hr0, s, K => (userCall o = true → ∀ q ∈ rest, allocOK P q.1) ∧
      Tguard ops o s (Top P o s fun s' => ∃ Hr : Hp, (∀ l c, Hr l = some c → s'.H l = some c) ∧ (z = true → ∀ l c, Hr0 l = some c → Hr l = some c) ∧ TopsD P z ops rest Hr s' K)
        (∃ Hr : Hp, (∀ l c, Hr l = some c → s.H l = some c) ∧ (z = true → ∀ l c, Hr0 l = some c → Hr l = some c) ∧ TopsD P z ops rest Hr (s.put o.dst (.tup [])) K)
  | (o, false) :: rest, Hr, s, K => Tguard ops o s (TopQ P o Hr s fun s' => TopsD P z ops rest Hr s' K) (TopsD P z ops rest Hr (s.put o.dst (.tup [])) K)
def marked : List Oper → List Bool → List (Oper × Bool)
  | [], _ => []
  | o :: rest, fl => (o, fl.headD false) :: marked rest fl.tail
structure SR (P : Program) (γ : GP) (n : Nat) (w0 : World) (O0 X : Nat → Prop) (s : St) (a : Act) (w : World) : Prop where
  size : a.tmps.size = n
  defers : a.defers = []
  env : ∀ i, VR w (both X s.H) (a.tmps.getD i Go.undef) (s.env i)
  heap : HR w X s.H
  fr : Fr w0 O0 w
  new : ∀ b, own s.H b → O0 b ∨ w0.heap.size ≤ b
  lt : ∀ b, X b → b < w.heap.size
  gs : Gs γ s.H
def wrs (t : Nat) : Code → Bool
  | .region _ ops _ => ops.toList.any fun o => o.dst == some t
  | .seq a b => wrs t a || wrs t b
  | .cond _ a b => wrs t a || wrs t b
  | .block _ c => wrs t c
  | .loop c => wrs t c
  | _ => false
def Wk (P : Program) (c : Code) (N : Nat) (s s2 : St) : Prop :=
  (∀ t, wrs t c = false → s2.env t = s.env t) ∧
  ∀ (γ : GP) (n : Nat) (w0 : World) (O0 X : Nat → Prop) (a : Act) (w : World), γ.N = N → SR P γ n w0 O0 X s a w → SR P γ n w0 O0 X s2 a w
theorem Wk.refl (P : Program) (c : Code) (N : Nat) (s : St) : Wk P c N s s := ⟨fun _ _ => rfl, fun _ _ _ _ _ _ _ _ h => h⟩
inductive X where
  | normal
  | exit (id : Nat)
  | ret
def iter (W : Nat → St → St → Prop) (F : St → (X → St → Prop) → Prop) : Nat → St → (X → St → Prop) → Prop
  | 0, _, _ => False
  | n + 1, s, Q => ∀ N, ∃ s2, W N s s2 ∧ F s2 fun x s' => match x with
    | .normal => iter W F n s' Q
    | x => Q x s'
def depOn (ops : Array Oper) (i j : Nat) : Bool := ((ops[j]?).map fun o => o.after.any fun e => Region.binds .any e && e.on == i).getD false
def makes (o : Oper) : Bool :=
  match o.op with
  | .alloc _ | .box .. => true
  | .call { callee := .builtin .append, .. } => true
  | _ => false
def silentB (o : Oper) : Bool :=
  match o.op with
  | .load .. => false
  | .call { callee := .value _, .. } => false
  | op => !isEff op
def isLd (o : Oper) : Bool :=
  match o.op with
  | .load .. => true
  | _ => false
def closeStep (acc : List Nat) (o : Oper) : List Nat :=
  acc ++ [o.after.toList.foldl (fun m e => if Region.binds .any e = true then (m ||| 1 <<< e.on) ||| acc.getD e.on 0 else m) 0]
def closure (ops : Array Oper) : List Nat := ops.toList.foldl closeStep []
inductive Tr (ops : Array Oper) : Nat → Nat → Prop where
  | one {i j : Nat} (h : depOn ops i j = true) : Tr ops i j
  | more {i k j : Nat} (h : Tr ops i k) (h' : depOn ops k j = true) : Tr ops i j
def drawOK (z : Bool) (ops : Array Oper) (fl : List Bool) : Bool :=
  let cl := closure ops
  (List.range ops.size).all fun j =>
    ((ops[j]?).map fun o => o.after.all fun e => !Region.binds .any e || decide (e.on < j)).getD false &&
    (List.range j).all fun i => (cl.getD j 0).testBit i || (match ops[i]?, ops[j]? with
      | some a, some b => a.apart ops b && (if fl.getD i false then !fl.getD j false && userCall a && isAlloc b else if fl.getD j false then silentB a || (z && isLd a) else !((makes a || userCall a) && userCall b) && !(isApp a && isApp b))
      | _, _ => false)
def T (P : Program) : Code → St → (X → St → Prop) → Prop
  | .skip, s, Q => Q .normal s
  | .region _ ops false, s, Q => Tops P ops ops.toList s (Q .normal)
  | .region _ ops true, s, Q => ∃ z fl Hr, drawOK z ops fl = true ∧ (∀ l c, Hr l = some c → s.H l = some c) ∧ TopsD P z ops (marked ops.toList fl) Hr s (Q .normal)
  | .seq a b, s, Q => T P a s fun x s' => match x with
    | .normal => T P b s' Q
    | x => Q x s'
  | .cond c a b, s, Q => ∃ t, evo s c = .bool t ∧ (if t then T P a s Q else T P b s Q)
  | .block id c, s, Q => T P c s fun x s' => match x with
    | .exit id' => if id' = id then Q .normal s' else Q (.exit id') s'
    | x => Q x s'
  | .loop c, s, Q => ∃ n, iter (Wk P c) (T P c) n s Q
  | .exit id, s, Q => Q (.exit id) s
  | .ret, s, Q => Q .ret s
  | _, _, _ => False
end Go.Proofs.Ythdgdngdfijfhaa
namespace Go.Proofs.Ythdgdngdfijfhaa
open Go.RowKit
set_option linter.unusedVariables false
theorem flat_cons (x : PV) (xs : List PV) : flat (x :: xs) = x.cells ++ flat xs := by simp [flat]
theorem flat_append (xs ys : List PV) : flat (xs ++ ys) = flat xs ++ flat ys := by simp [flat]
theorem flat_len {xs : List PV} {sz : Nat} (h : ∀ x ∈ xs, x.cells.length = sz) : (flat xs).length = xs.length * sz := by
  induction xs with
  | nil => simp [flat]
  | cons x xs ih =>
    rw [flat_cons, List.length_append, ih (fun y hy => h y (List.mem_cons_of_mem _ hy)), h x List.mem_cons_self, List.length_cons, Nat.succ_mul]
    omega
theorem flat_get {xs : List PV} {sz : Nat} (h : ∀ x ∈ xs, x.cells.length = sz) : ∀ (i : Nat) (x : PV) (j : Nat), xs[i]? = some x → j < sz → (flat xs)[i * sz + j]? = x.cells[j]? := by
  induction xs with
  | nil => intro i x j hx; simp at hx
  | cons y ys ih =>
    intro i x j hx hj
    have hy := h y List.mem_cons_self
    cases i with
    | zero =>
      obtain rfl : y = x := by simpa using hx
      rw [flat_cons, Nat.zero_mul, Nat.zero_add, List.getElem?_append_left (by omega)]
    | succ i =>
      rw [flat_cons, List.getElem?_append_right (by rw [hy, Nat.succ_mul]; omega), hy]
      have : (i + 1) * sz + j - sz = i * sz + j := by rw [Nat.succ_mul]; omega
      rw [this]
      exact ih (fun z hz => h z (List.mem_cons_of_mem _ hz)) i x j (by simpa using hx) hj
theorem flat_drop {xs : List PV} {sz : Nat} (h : ∀ x ∈ xs, x.cells.length = sz) (i : Nat) : flat (xs.drop i) = (flat xs).drop (i * sz) := by
  induction xs generalizing i with
  | nil => simp [flat]
  | cons y ys ih =>
    cases i with
    | zero => simp
    | succ i =>
      have hy := h y List.mem_cons_self
      rw [List.drop_succ_cons, ih (fun z hz => h z (List.mem_cons_of_mem _ hz)) i, flat_cons, List.drop_append, Nat.succ_mul, hy]
      have : i * sz + sz - sz = i * sz := by omega
      rw [this, List.drop_of_length_le (l := y.cells) (by rw [hy]; omega), List.nil_append]
theorem flat_take {xs : List PV} {sz : Nat} (h : ∀ x ∈ xs, x.cells.length = sz) (i : Nat) : flat (xs.take i) = (flat xs).take (i * sz) := by
  induction xs generalizing i with
  | nil => simp [flat]
  | cons y ys ih =>
    cases i with
    | zero => simp [flat]
    | succ i =>
      have hy := h y List.mem_cons_self
      rw [List.take_succ_cons, flat_cons, ih (fun z hz => h z (List.mem_cons_of_mem _ hz)) i, flat_cons, List.take_append, Nat.succ_mul, hy]
      have : i * sz + sz - sz = i * sz := by omega
      rw [this, List.take_of_length_le (l := y.cells) (by rw [hy]; omega)]
theorem mem_of_get {α : Type} {xs : List α} {i : Nat} {x : α} (h : xs[i]? = some x) : x ∈ xs := List.mem_of_getElem? h
theorem flat_split {xs : List PV} {sz : Nat} (h : ∀ x ∈ xs, x.cells.length = sz) {k : Nat} {p : PV} (hk : (flat xs)[k]? = some p) :
    ∃ i x j, xs[i]? = some x ∧ j < sz ∧ k = i * sz + j ∧ x.cells[j]? = some p := by
  induction xs generalizing k with
  | nil => simp [flat] at hk
  | cons y ys ih =>
    have hy := h y List.mem_cons_self
    rw [flat_cons] at hk
    rcases Nat.lt_or_ge k y.cells.length with hlt | hge
    · rw [List.getElem?_append_left hlt] at hk
      exact ⟨0, y, k, by simp, by omega, by simp, hk⟩
    · rw [List.getElem?_append_right hge] at hk
      obtain ⟨i, x, j, hx, hj, hkj, hp⟩ := ih (fun z hz => h z (List.mem_cons_of_mem _ hz)) hk
      refine ⟨i + 1, x, j, by simpa using hx, hj, ?_, hp⟩
      rw [Nat.succ_mul]
      omega
theorem cells_of_noagg {v : Value} (h : ∀ cs, v ≠ .agg cs) : v.cells = #[v] := by
  cases v <;> first | rfl | exact absurd rfl (h _)
theorem VR.cells {w : World} {O : Nat → Prop} {v : Value} {p : PV} (h : VR w O v p) (hd : p.isDef = true) :
    v.cells.size = p.cells.length ∧ ∀ (i : Nat) c q, v.cells[i]? = some c → p.cells[i]? = some q → VR w O c q := by
  have one : ∀ (v : Value) (p : PV), VR w O v p → v.cells = #[v] → p.cells = [p] → v.cells.size = p.cells.length ∧ ∀ (i : Nat) c q, v.cells[i]? = some c → p.cells[i]? = some q → VR w O c q := by
    intro v p h hv hp
    rw [hv, hp]
    refine ⟨rfl, fun i c q hc hq => ?_⟩
    cases i with
    | zero => simp at hc hq; subst hc; subst hq; exact h
    | succ i => simp at hq
  cases h with
  | undef v => simp [PV.isDef] at hd
  | agg ps vs hlen hel => exact ⟨hlen, hel⟩
  | bool b => exact one _ _ (.bool b) rfl rfl
  | int k n => exact one _ _ (.int k n) rfl rfl
  | str s => exact one _ _ (.str s) rfl rfl
  | list k xs a cap sz cs h1 h2 h3 h4 h5 h6 h7 => exact one _ _ (.list k xs a cap sz cs h1 h2 h3 h4 h5 h6 h7) rfl rfl
  | arr0 l sz lo a => exact one _ _ (.arr0 l sz lo a) rfl rfl
  | arr b sz lo len cap cs t fr h1 h2 h3 => exact one _ _ (.arr b sz lo len cap cs t fr h1 h2 h3) rfl rfl
  | ref b sz i off => exact one _ _ (.ref b sz i off) rfl rfl
  | cptr b o ps cs h1 h2 h3 h4 h5 => exact one _ _ (.cptr b o ps cs h1 h2 h3 h4 h5) rfl rfl
  | nilp => exact one _ _ .nilp rfl rfl
  | fn f ps vs h1 h2 => exact one _ _ (.fn f ps vs h1 h2) rfl rfl
  | bfn f ps vs h1 h2 => exact one _ _ (.bfn f ps vs h1 h2) rfl rfl
  | tagp q b t n cs fr h1 h2 => exact one _ _ (.tagp q b t n cs fr h1 h2) rfl rfl
  | tags b t n cap cs fr h1 h2 h3 h4 => exact one _ _ (.tags b t n cap cs fr h1 h2 h3 h4) rfl rfl
  | nilf => exact one _ _ .nilf rfl rfl
  | tup ps vs h1 h2 => exact one _ _ (.tup ps vs h1 h2) rfl rfl
  | iface t v p h => exact one _ _ (.iface t v p h) rfl rfl
  | nili => exact one _ _ .nili rfl rfl
  | mapr b => exact one _ _ (.mapr b) rfl rfl
  | nilm => exact one _ _ .nilm rfl rfl
theorem ofCell_VR (w : World) (O : Nat → Prop) (v : Value) : VR w O v (ofCell v) := by
  unfold ofCell
  split
  · exact .bool _
  · exact .int _ _
  · rename_i s
    have : s = ⟨s.data.toList.toArray⟩ := by cases s; simp
    have h := VR.str (w := w) (O := O) s.data.toList
    rw [← this] at h
    exact h
  · exact .list .nil [] none 0 0 [] (Nat.le_refl _) (fun _ => ⟨rfl, rfl⟩) ⟨nofun, nofun, fun _ => rfl⟩ rfl (fun x h => by cases h) (fun h => absurd rfl h) (fun i v p h => by simp at h)
  · exact .nilp
  · exact .nilf
  · exact .nili
  · exact .nilm
  · exact .undef _
theorem ofValue_VR (w : World) (O : Nat → Prop) (v : Value) : VR w O v (ofValue v) := by
  unfold ofValue
  split
  · rename_i cs
    refine .agg _ cs (by simp) (fun i v p hv hp => ?_)
    rw [List.getElem?_map, Array.getElem?_toList, hv] at hp
    obtain rfl : ofCell v = p := by simpa using hp
    exact ofCell_VR w O v
  · exact ofCell_VR w O v
theorem run_loadVar_one {P : Program} {w : World} {t : TypeId} {a : Addr} {v : Value} {d : TypeDesc} (hu : P.underlying t = some d) (hd : d.isRow = false) (hc : w.cell? a = some v) :
    (loadVar t a).run P w = .ok v w := by
  have hagg : (isAgg t).run P w = .ok false w := by
    unfold isAgg
    rw [Sem.run_bind, run_underlying hu w]
    cases d <;> simp_all
  simp [loadVar, Sem.run_bind, hagg, hc]
theorem size_info {P : Program} {t : TypeId} {d : TypeDesc} (hu : P.underlying t = some d) : (P.info? t).map (·.size) = some (P.cellsOf t) := by
  unfold Program.underlying at hu
  unfold Program.cellsOf
  cases h : P.info? t with
  | none => simp [h] at hu
  | some i => simp
theorem run_loadCs {P : Program} {w : World} {O : Nat → Prop} {t : TypeId} {b o off : Nat} {cs : List Value} {ps : List PV} {q : PV}
    (hr : w.rangeAt b o cs) (hlen : ps.length ≤ cs.length) (hel : ∀ (i : Nat) v p, cs[i]? = some v → ps[i]? = some p → VR w O v p)
    (h : loadCs P t ps off = some q) : ∃ v, (loadVar t ⟨b, o + off, none⟩).run P w = .ok v w ∧ VR w O v q := by
  unfold loadCs at h
  have row : ∀ d, P.underlying t = some d → d.isRow = true → (if off + P.cellsOf t ≤ ps.length then some (PV.agg ((ps.drop off).take (P.cellsOf t))) else none) = some q →
      ∃ v, (loadVar t ⟨b, o + off, none⟩).run P w = .ok v w ∧ VR w O v q := by
    intro d hu hd h
    split at h
    · rename_i hle
      obtain rfl := Option.some.inj h
      refine ⟨_, run_loadVar_mid w b (o + off) t ((cs.drop off).take (P.cellsOf t)) d (fun j v hv => ?_) hu hd ?_, ?_⟩
      · have hj : j < P.cellsOf t := by
          have := (List.getElem?_eq_some_iff.1 hv).1
          simp at this; omega
        rw [List.getElem?_take_of_lt hj, List.getElem?_drop] at hv
        have := hr (off + j) v hv
        rwa [Nat.add_assoc]
      · rw [size_info hu]; simp; omega
      · refine .agg _ _ (by simp; omega) (fun i v p hv hp => ?_)
        have hi : i < P.cellsOf t := by
          have := (List.getElem?_eq_some_iff.1 hp).1
          simp at this; omega
        rw [List.getElem?_toArray, List.getElem?_take_of_lt hi, List.getElem?_drop] at hv
        rw [List.getElem?_take_of_lt hi, List.getElem?_drop] at hp
        exact hel _ _ _ hv hp
    · cases h
  split at h
  · rename_i fs hu; exact row _ hu rfl h
  · rename_i n e hu; exact row _ hu rfl h
  · rename_i d h1 h2 hu
    have hd : d.isRow = false := by
      cases d <;> first | rfl | exact absurd rfl (h1 _) | exact absurd rfl (h2 _ _)
    have hlt : off < ps.length := (List.getElem?_eq_some_iff.1 h).1
    obtain ⟨v, hv⟩ : ∃ v, cs[off]? = some v := ⟨cs[off], List.getElem?_eq_getElem (by omega)⟩
    exact ⟨v, run_loadVar_one hu hd (hr off v hv), hel _ _ _ hv h⟩
  · cases h
theorem Gs.real {γ : GP} {H : Hp} (h : Gs γ H) (b : Nat) (c : Option Chunk) : Gs γ (upd H (.real b) c) :=
  ⟨fun g c' e => h.1 g c' (by rwa [upd_ne _ _ (by simp)] at e), let ⟨B, hB⟩ := h.2; ⟨B, fun g hg => by rw [upd_ne _ _ (by simp)]; exact hB g hg⟩⟩
theorem Gs.sub {γ : GP} {H H' : Hp} (h : Gs γ H) (hs : ∀ g c, H' (.ghost g) = some c → ∃ c0, H (.ghost g) = some c0) : Gs γ H' :=
  ⟨fun g c e => let ⟨c0, e0⟩ := hs g c e; h.1 g c0 e0, let ⟨B, hB⟩ := h.2; ⟨B, fun g hg => by
    cases e : H' (.ghost g) with
    | none => rfl
    | some c => obtain ⟨c0, e0⟩ := hs g c e; rw [hB g hg] at e0; cases e0⟩⟩
theorem SR.ev {P : Program} {γ : GP} {n : Nat} {w0 : World} {O0 X : Nat → Prop} {s : St} {a : Act} {w : World} (h : SR P γ n w0 O0 X s a w) (x : Operand) : VR w (both X s.H) (a.eval x) (evo s x) := by
  cases x with
  | tmp t => exact h.env t
  | const v => exact ofValue_VR _ _ v
  | global g => exact .undef _
  | func f => exact .fn f [] #[] rfl (fun i v p hv => by simp at hv)
theorem own_lt {w : World} {X : Nat → Prop} {H : Hp} (h : HR w X H) {b : Nat} (ho : own H b) : b < w.heap.size := by
  obtain ⟨sz, xs, hb⟩ := ho
  obtain ⟨_, _, cs, t, e, _⟩ := h _ _ _ _ hb
  exact lt_of_block e
theorem HR.keep {w w' : World} {X : Nat → Prop} {H : Hp} (h : HR w X H) (hf : Fr w (fun _ => False) w') : HR w' X H := by
  intro l m sz xs hl
  obtain ⟨h1, h2⟩ := h l m sz xs hl
  refine ⟨h1, ?_⟩
  cases l with
  | real b =>
    obtain ⟨h3, cs, t, e, h4, h5⟩ := h2
    refine ⟨h3, cs, t, (hf.block b (lt_of_block e) (fun e => e)).trans e, h4, fun i v p hv hp => ?_⟩
    exact (h5 i v p hv hp).mono (fun b hb _ => hf.block b hb (fun e => e)) (fun _ _ h => h) (fun b cs t fr e => by obtain ⟨cs', fr', e', hs⟩ := hf.shape b cs t fr e; exact ⟨cs', fr', e', hs⟩)
  | ghost g => exact h2
theorem VR.keep {w w' : World} {O : Nat → Prop} {v : Value} {p : PV} (h : VR w O v p) (hf : Fr w (fun _ => False) w') : VR w' O v p :=
  h.mono (fun b hb _ => hf.block b hb (fun e => e)) (fun _ _ h => h) (fun b cs t fr e => by obtain ⟨cs', fr', e', hs⟩ := hf.shape b cs t fr e; exact ⟨cs', fr', e', hs⟩)
theorem VR.less {w : World} {O O' : Nat → Prop} {v : Value} {p : PV} (h : VR w O v p) (hO : ∀ b, b < w.heap.size → O' b → O b) : VR w O' v p :=
  h.mono (fun _ _ _ => rfl) hO (fun b cs t fr e => ⟨cs, fr, e, rfl⟩)
theorem getD_put (a : Act) (d i : Nat) (v : Value) (hd : d < a.tmps.size) : (a.put (some d) v).tmps.getD i undef = if i = d then v else a.tmps.getD i undef := by
  simp only [Act.put, Array.getD_eq_getD_getElem?, Array.getElem?_setIfInBounds]
  by_cases h : d = i
  · subst h; simp [hd]
  · simp [h, Ne.symm h]
theorem put_size (a : Act) (d : Option Tmp) (v : Value) : (a.put d v).tmps.size = a.tmps.size := by
  cases d <;> simp [Act.put]
theorem put_defers (a : Act) (d : Option Tmp) (v : Value) : (a.put d v).defers = a.defers := by
  cases d <;> rfl
theorem SR.put {P : Program} {γ : GP} {n : Nat} {w0 : World} {O0 X : Nat → Prop} {s : St} {a : Act} {w w' : World} (h : SR P γ n w0 O0 X s a w) (d : Option Tmp) (hd : ∀ t, d = some t → t < n)
    {v : Value} {p : PV} (hf : Fr w (fun _ => False) w') (hv : VR w' (both X s.H) v p) : SR P γ n w0 O0 X (s.put d p) (a.put d v) w' := by
  have hH : (s.put d p).H = s.H := by cases d <;> rfl
  refine ⟨by rw [put_size]; exact h.size, by rw [put_defers]; exact h.defers, fun i => ?_, by rw [hH]; exact h.heap.keep hf, h.fr.trans hf (fun _ _ e => e.elim), by rw [hH]; exact h.new, fun b hb => Nat.lt_of_lt_of_le (h.lt b hb) hf.size, by rw [hH]; exact h.gs⟩
  rw [hH]
  cases d with
  | none => exact (h.env i).keep hf
  | some d =>
    rw [getD_put a d i v (by rw [h.size]; exact hd d rfl)]
    simp only [St.put, upd_apply]
    split
    · exact hv
    · exact (h.env i).keep hf
end Go.Proofs.Ythdgdngdfijfhaa
namespace Go.Proofs.Ythdgdngdfijfhaa
open Go.RowKit
set_option linter.unusedVariables false
set_option linter.unusedSimpArgs false
section
variable {P : Program} {w : World} {O : Nat → Prop}
theorem VR.bool_inv {v : Value} {b : Bool} (h : VR w O v (.bool b)) : v = .bool b := by cases h; rfl
theorem VR.int_inv {v : Value} {k : IntKind} {n : Int} (h : VR w O v (.int k n)) : v = .int k n := by cases h; rfl
theorem VR.str_inv {v : Value} {s : List UInt8} (h : VR w O v (.str s)) : v = .string ⟨s.toArray⟩ := by cases h; rfl
theorem VR.agg_inv {v : Value} {ps : List PV} (h : VR w O v (.agg ps)) : ∃ vs, v = .agg vs ∧ vs.size = ps.length ∧ ∀ (i : Nat) v p, vs[i]? = some v → ps[i]? = some p → VR w O v p := by
  cases h with
  | agg ps vs h1 h2 => exact ⟨vs, rfl, h1, h2⟩
theorem VR.tup_inv {v : Value} {ps : List PV} (h : VR w O v (.tup ps)) : ∃ vs, v = .tuple vs ∧ vs.size = ps.length ∧ ∀ (i : Nat) v p, vs[i]? = some v → ps[i]? = some p → VR w O v p := by
  cases h with
  | tup ps vs h1 h2 => exact ⟨vs, rfl, h1, h2⟩
theorem VR.fn_inv {v : Value} {f : Nat} {ps : List PV} (h : VR w O v (.fn f ps)) : ∃ vs, v = .func (.func f) #[] vs ∧ vs.size = ps.length ∧ ∀ (i : Nat) v p, vs[i]? = some v → ps[i]? = some p → VR w O v p := by
  cases h with
  | fn f ps vs h1 h2 => exact ⟨vs, rfl, h1, h2⟩
theorem VR.bfn_inv {v : Value} {f : Nat} {ps : List PV} (h : VR w O v (.bfn f ps)) : ∃ vs, v = .func (.func f) vs #[] ∧ vs.size = ps.length ∧ ∀ (i : Nat) v p, vs[i]? = some v → ps[i]? = some p → VR w O v p := by
  cases h with
  | bfn f ps vs h1 h2 => exact ⟨vs, rfl, h1, h2⟩
theorem eqGuard_int (op : BinOp) (t : TypeId) (x y : Operand) (k k' : IntKind) (a b : Int) : (eqGuard op t x y (.int k a) (.int k' b)).run P w = .ok () w := by
  unfold eqGuard; cases op <;> simp
theorem eqGuard_str (op : BinOp) (t : TypeId) (x y : Operand) (a b : ByteArray) : (eqGuard op t x y (.string a) (.string b)).run P w = .ok () w := by
  unfold eqGuard; cases op <;> simp
theorem eqGuard_bool (op : BinOp) (t : TypeId) (x y : Operand) (a b : Bool) : (eqGuard op t x y (.bool a) (.bool b)).run P w = .ok () w := by
  unfold eqGuard; cases op <;> simp
theorem eqGuard_slice (op : BinOp) (t : TypeId) (x y : Operand) (a b : Option Addr) (l c l' c' : Nat) : (eqGuard op t x y (.slice a l c) (.slice b l' c')).run P w = .ok () w := by
  unfold eqGuard; cases op <;> simp
theorem intBin_run {op : BinOp} {t : TypeId} {k : IntKind} {a b : Int} {p : PV} (h1 : op ≠ .shl) (h2 : op ≠ .shr) (h : intBin op k a b = some p) :
    ∃ v, (binOp op t (.int k a) (.int k b)).run P w = .ok v w ∧ VR w O v p := by
  cases op <;> simp only [intBin, intCmpB, Option.map_some, Option.map_none, Option.some.injEq, reduceCtorEq, ite_eq_left_iff, ne_eq, not_true_eq_false] at h h1 h2
  case add => subst h; exact ⟨_, by simp [binOp, Op.intArith], .int _ _⟩
  case sub => subst h; exact ⟨_, by simp [binOp, Op.intArith], .int _ _⟩
  case mul => subst h; exact ⟨_, by simp [binOp, Op.intArith], .int _ _⟩
  case quo =>
    split at h
    · cases h
    · rename_i hb; obtain rfl := Option.some.inj h; exact ⟨_, by simp [binOp, Op.intDiv, hb], .int _ _⟩
  case rem =>
    split at h
    · cases h
    · rename_i hb; obtain rfl := Option.some.inj h; exact ⟨_, by simp [binOp, Op.intDiv, hb], .int _ _⟩
  case and => subst h; exact ⟨_, by simp [binOp, Op.intBits], .int _ _⟩
  case or => subst h; exact ⟨_, by simp [binOp, Op.intBits], .int _ _⟩
  case xor => subst h; exact ⟨_, by simp [binOp, Op.intBits], .int _ _⟩
  case andNot => subst h; exact ⟨_, by simp [binOp, Op.intBits], .int _ _⟩
  case eql => subst h; exact ⟨.bool (decide (a = b)), by simp [binOp, Op.intCmp, BEq.beq], .bool _⟩
  case neq => subst h; exact ⟨.bool (decide (a ≠ b)), by simp [binOp, Op.intCmp, bne, BEq.beq], .bool _⟩
  case lss => subst h; exact ⟨_, by simp [binOp, Op.intCmp], .bool _⟩
  case leq => subst h; exact ⟨_, by simp [binOp, Op.intCmp], .bool _⟩
  case gtr => subst h; exact ⟨_, by simp [binOp, Op.intCmp], .bool _⟩
  case geq => subst h; exact ⟨_, by simp [binOp, Op.intCmp], .bool _⟩
theorem strCmp_run {op : BinOp} {t : TypeId} {a b : List UInt8} {p : PV} (h : strCmp op a b = some p) :
    ∃ v, (binOp op t (.string ⟨a.toArray⟩) (.string ⟨b.toArray⟩)).run P w = .ok v w ∧ VR w O v p := by
  cases op <;> simp only [strCmp, Option.some.injEq, reduceCtorEq] at h
  case add =>
    split at h
    · rename_i hle
      obtain rfl := Option.some.inj h
      refine ⟨.string ⟨(a ++ b).toArray⟩, ?_, .str _⟩
      have hs : (⟨a.toArray⟩ : ByteArray).size + (⟨b.toArray⟩ : ByteArray).size ≤ 9223372036854775807 := by
        show a.toArray.size + b.toArray.size ≤ _
        simp only [List.size_toArray]
        omega
      simp only [binOp]
      rw [run_string_add_sum w _ _ hs, ByteArray.mk_append_mk]
    · cases h
  all_goals (subst h; exact ⟨_, by simp [binOp, Op.stringOp, ByteArray.toList_mk], .bool _⟩)
theorem cellsEq_cons {p q : PV} {ps qs : List PV} {r : Bool} (h : cellsEq (p :: ps) (q :: qs) = some r) :
    ∃ a b, r = (a && b) ∧ cellsEq [p] [q] = some a ∧ cellsEq ps qs = some b := by
  cases p <;> cases q <;> simp only [cellsEq, Option.map_some, Option.some.injEq, reduceCtorEq, Bool.and_true, Option.map_eq_some_iff] at h ⊢
  all_goals (obtain ⟨b, hb, rfl⟩ := h; exact ⟨_, b, rfl, rfl, hb⟩)
theorem cellsEq_split : ∀ {ps qs : List PV} {r : Bool} (n : Nat), cellsEq ps qs = some r → ∃ a b, r = (a && b) ∧ cellsEq (ps.take n) (qs.take n) = some a ∧ cellsEq (ps.drop n) (qs.drop n) = some b
  | ps, qs, r, 0, h => ⟨true, r, by simp, by simp [cellsEq], by simpa using h⟩
  | [], [], r, n + 1, h => ⟨true, r, by simp, by simp [cellsEq], by simpa using h⟩
  | p :: ps, q :: qs, r, n + 1, h => by
    obtain ⟨a, b, rfl, ha, hb⟩ := cellsEq_cons h
    obtain ⟨c, d, rfl, hc, hd⟩ := cellsEq_split n hb
    refine ⟨a && c, d, by rw [Bool.and_assoc], ?_, by simpa using hd⟩
    simp only [List.take_succ_cons]
    cases p <;> cases q <;> simp only [cellsEq, Option.map_some, Option.some.injEq, reduceCtorEq, Bool.and_true] at ha ⊢
    all_goals (subst ha; rw [hc]; rfl)
  | [], _ :: _, r, n + 1, h => by simp [cellsEq] at h
  | p :: _, [], r, n + 1, h => by cases p <;> simp [cellsEq] at h
def CR (w : World) (O : Nat → Prop) (cs : Array Value) (ps : List PV) : Prop := cs.size = ps.length ∧ ∀ (i : Nat) v p, cs[i]? = some v → ps[i]? = some p → VR w O v p
theorem cr_drop {cs : Array Value} {ps : List PV} (h : CR w O cs ps) (i n : Nat) (hn : n ≤ ps.length - i) : CR w O (cs.extract i (i + n)) ((ps.drop i).take n) := by
  obtain ⟨h1, h2⟩ := h
  refine ⟨by simp; omega, fun j v p hv hp => ?_⟩
  have hj : j < n := by
    have := (List.getElem?_eq_some_iff.1 hp).1
    simp at this; omega
  rw [List.getElem?_take_of_lt hj, List.getElem?_drop] at hp
  rw [Array.getElem?_extract] at hv
  split at hv
  · exact h2 _ _ _ hv hp
  · cases hv
theorem part_row {t : TypeId} {off : Nat} {xs : Array Value} {d : TypeDesc} (hu : P.underlying t = some d) (hd : d.isRow = true) :
    (part t xs off).run P w = .ok (.agg (xs.extract off (off + P.cellsOf t))) w := by
  have hi := size_info hu
  have hagg : (isAgg t).run P w = .ok true w := by
    unfold isAgg
    rw [Sem.run_bind, run_underlying hu w]
    cases d <;> simp_all
  cases h : P.info? t with
  | none => simp [h] at hi
  | some i =>
    have hs : i.size = P.cellsOf t := by simpa [h] using hi
    simp [part, hagg, sizeOf, typeInfo, h, hs]
theorem part_one {t : TypeId} {off : Nat} {xs : Array Value} {d : TypeDesc} {v : Value} (hu : P.underlying t = some d) (hd : d.isRow = false) (hv : xs[off]? = some v) :
    (part t xs off).run P w = .ok v w := by
  have hagg : (isAgg t).run P w = .ok false w := by
    unfold isAgg
    rw [Sem.run_bind, run_underlying hu w]
    cases d <;> simp_all
  simp [part, hagg, hv]
theorem tkinds_cells {n : Nat} {t : TypeId} {ks : List CK} (h : tkinds P n t = some ks) : ∃ d, P.underlying t = some d ∧
    ((d.isRow = false ∧ ks.length = 1 ∧ (d = .bool ∧ ks = [.b] ∨ (∃ k, d = .int k ∧ ks = [.i k]) ∨ d = .string ∧ ks = [.s])) ∨ (∃ fs, d = .struct fs)) := by
  cases n with
  | zero => simp [tkinds] at h
  | succ n =>
    simp only [tkinds] at h
    split at h
    · rename_i hu; obtain rfl := Option.some.inj h; exact ⟨_, hu, .inl ⟨rfl, rfl, .inl ⟨rfl, rfl⟩⟩⟩
    · rename_i k hu; obtain rfl := Option.some.inj h; exact ⟨_, hu, .inl ⟨rfl, rfl, .inr (.inl ⟨k, rfl, rfl⟩)⟩⟩
    · rename_i hu; obtain rfl := Option.some.inj h; exact ⟨_, hu, .inl ⟨rfl, rfl, .inr (.inr ⟨rfl, rfl⟩)⟩⟩
    · rename_i fs hu; exact ⟨_, hu, .inr ⟨fs, rfl⟩⟩
    · cases h
theorem equalIn_flat : ∀ (n : Nat) (t : TypeId) (d : Nat) (va vb : Value) (ks : List CK) (ps qs : List PV) (r : Bool), tkinds P n t = some ks →
    CR w O va.cells ps → CR w O vb.cells qs → ((∃ fs, P.underlying t = some (.struct fs)) → (∃ a, va = .agg a) ∧ (∃ b, vb = .agg b)) →
    ((∀ fs, P.underlying t ≠ some (.struct fs)) → (∀ a, va ≠ .agg a) ∧ (∀ b, vb ≠ .agg b)) →
    ps.map PV.ck = ks.map some → qs.map PV.ck = ks.map some → cellsEq ps qs = some r → (Op.equalIn (n + d) t va vb).run P w = .ok r w := by
  intro n
  induction n with
  | zero => intro t d va vb ks ps qs r h; simp [tkinds] at h
  | succ n ih =>
    intro t d va vb ks ps qs r h ha hb hs hns hp hq hc
    have hadd : n + 1 + d = (n + d) + 1 := by omega
    rw [hadd]
    have one : ∀ k, ks = [k] → (∀ fs, P.underlying t ≠ some (.struct fs)) → ∃ p q, ps = [p] ∧ qs = [q] ∧ p.ck = some k ∧ q.ck = some k ∧ VR w O va p ∧ VR w O vb q := by
      intro k hk hn
      subst hk
      obtain ⟨hna, hnb⟩ := hns hn
      have e1 := cells_of_noagg hna
      have e2 := cells_of_noagg hnb
      obtain ⟨p, rfl⟩ : ∃ p, ps = [p] := List.length_eq_one_iff.1 (by simpa using congrArg List.length hp)
      obtain ⟨q, rfl⟩ : ∃ q, qs = [q] := List.length_eq_one_iff.1 (by simpa using congrArg List.length hq)
      exact ⟨p, q, rfl, rfl, by simpa using hp, by simpa using hq, ha.2 0 va p (by rw [e1]; rfl) rfl, hb.2 0 vb q (by rw [e2]; rfl) rfl⟩
    simp only [tkinds] at h
    split at h
    · rename_i hu
      obtain ⟨p, q, rfl, rfl, h1, h2, hp, hq⟩ := one .b (Option.some.inj h).symm (by intro fs e; rw [hu] at e; cases e)
      cases p <;> simp only [PV.ck, reduceCtorEq, Option.some.injEq] at h1
      cases q <;> simp only [PV.ck, reduceCtorEq, Option.some.injEq] at h2
      simp only [cellsEq, Option.map_some, Option.some.injEq, Bool.and_true] at hc
      subst hc
      rw [hp.bool_inv, hq.bool_inv]; simp [Op.equalIn, run_underlying hu]
    · rename_i k hu
      obtain ⟨p, q, rfl, rfl, h1, h2, hp, hq⟩ := one (.i k) (Option.some.inj h).symm (by intro fs e; rw [hu] at e; cases e)
      cases p <;> simp only [PV.ck, reduceCtorEq, Option.some.injEq, CK.i.injEq] at h1
      cases q <;> simp only [PV.ck, reduceCtorEq, Option.some.injEq, CK.i.injEq] at h2
      simp only [cellsEq, Option.map_some, Option.some.injEq, Bool.and_true] at hc
      subst hc; subst h1; subst h2
      rw [hp.int_inv, hq.int_inv]
      simp [Op.equalIn, run_underlying hu, BEq.beq]
    · rename_i hu
      obtain ⟨p, q, rfl, rfl, h1, h2, hp, hq⟩ := one .s (Option.some.inj h).symm (by intro fs e; rw [hu] at e; cases e)
      cases p <;> simp only [PV.ck, reduceCtorEq, Option.some.injEq] at h1
      cases q <;> simp only [PV.ck, reduceCtorEq, Option.some.injEq] at h2
      simp only [cellsEq, Option.map_some, Option.some.injEq, Bool.and_true] at hc
      subst hc
      rw [hp.str_inv, hq.str_inv]
      simp only [Op.equalIn, Sem.run_bind, run_underlying hu, Result.andThen_ok, Sem.run_pure, beq_toListBytes, ByteArray.toList_mk]
    · rename_i fs hu
      obtain ⟨⟨xa, rfl⟩, ⟨xb, rfl⟩⟩ := hs ⟨fs, hu⟩
      split at h
      · cases h
      · rename_i hst
        have hfo : P.fieldsOf t = fs := by simp [Program.fieldsOf, hu]
        rw [run_equalIn_struct w (n + d) t xa xb (by rw [hfo]; exact hu) (by simpa using hst), hfo]
        -- field by field
        have key : ∀ (l : List Field) (o : Nat) (ks : List CK) (r : Bool), fkinds P (tkinds P n) l o = some ks →
            (ps.drop o).map PV.ck = ks.map some → (qs.drop o).map PV.ck = ks.map some → cellsEq (ps.drop o) (qs.drop o) = some r →
            (Op.eqFields (n + d) xa xb l).run P w = .ok r w := by
          intro l
          induction l with
          | nil =>
            intro o ks r hk hp hq hc
            simp only [fkinds, Option.some.injEq] at hk
            subst hk
            have e1 : ps.drop o = [] := by simpa using hp
            have e2 : qs.drop o = [] := by simpa using hq
            rw [e1, e2] at hc
            simp only [cellsEq, Option.some.injEq] at hc
            subst hc
            simp [Op.eqFields]
          | cons f l ihl =>
            intro o ks r hk hp hq hc
            simp only [fkinds] at hk
            split at hk
            · rename_i hf
              obtain ⟨hname, hoff⟩ := hf
              obtain ⟨kf, hkf, hk⟩ := Option.bind_eq_some_iff.1 hk
              split at hk
              · rename_i hlen
                obtain ⟨kr, hkr, rfl⟩ := Option.map_eq_some_iff.1 hk
                obtain ⟨r1, r2, rfl, hc1, hc2⟩ := cellsEq_split kf.length hc
                have hpl : kf.length + kr.length = ps.length - o := by simpa using (congrArg List.length hp).symm
                have hql : kf.length + kr.length = qs.length - o := by simpa using (congrArg List.length hq).symm
                have hp1 : ((ps.drop o).take kf.length).map PV.ck = kf.map some := by rw [List.map_take, hp, List.map_append, List.take_append_of_le_length (by simp), List.take_of_length_le (by simp)]
                have hq1 : ((qs.drop o).take kf.length).map PV.ck = kf.map some := by rw [List.map_take, hq, List.map_append, List.take_append_of_le_length (by simp), List.take_of_length_le (by simp)]
                have hp2 : (ps.drop (o + kf.length)).map PV.ck = kr.map some := by rw [← List.drop_drop, List.map_drop, hp, List.map_append, List.drop_append_of_le_length (by simp), List.drop_of_length_le (by simp), List.nil_append]
                have hq2 : (qs.drop (o + kf.length)).map PV.ck = kr.map some := by rw [← List.drop_drop, List.map_drop, hq, List.map_append, List.drop_append_of_le_length (by simp), List.drop_of_length_le (by simp), List.nil_append]
                rw [List.drop_drop, List.drop_drop] at hc2
                have hrest := ihl (o + kf.length) kr r2 hkr hp2 hq2 hc2
                -- the field's parts
                have hpart : ∃ va vb, (part f.type xa f.offset).run P w = .ok va w ∧ (part f.type xb f.offset).run P w = .ok vb w ∧ (Op.equalIn (n + d) f.type va vb).run P w = .ok r1 w := by
                  obtain ⟨df, hdf, hcase⟩ := tkinds_cells hkf
                  rcases hcase with ⟨hrow, hone, hcase⟩ | ⟨ffs, rfl⟩
                  · have hnos : ∀ fs, P.underlying f.type ≠ some (.struct fs) := by
                      intro fs e; rw [hdf] at e; cases e; cases hrow
                    have la : o < xa.size := by have := ha.1; simp only [Value.cells] at this; omega
                    have lb : o < xb.size := by have := hb.1; simp only [Value.cells] at this; omega
                    obtain ⟨va, hva⟩ : ∃ v, xa[o]? = some v := ⟨xa[o], Array.getElem?_eq_getElem la⟩
                    obtain ⟨vb, hvb⟩ : ∃ v, xb[o]? = some v := ⟨xb[o], Array.getElem?_eq_getElem lb⟩
                    refine ⟨va, vb, part_one hdf hrow (by rw [hoff]; exact hva), part_one hdf hrow (by rw [hoff]; exact hvb), ?_⟩
                    obtain ⟨p, hpo⟩ : ∃ p, ps[o]? = some p := ⟨ps[o]'(by omega), List.getElem?_eq_getElem (by omega)⟩
                    obtain ⟨q, hqo⟩ : ∃ q, qs[o]? = some q := ⟨qs[o]'(by omega), List.getElem?_eq_getElem (by omega)⟩
                    have hvp := ha.2 o va p hva hpo
                    have hvq := hb.2 o vb q hvb hqo
                    have ep : (ps.drop o).take 1 = [p] := by rw [List.take_one, List.head?_drop, hpo]; rfl
                    have eq : (qs.drop o).take 1 = [q] := by rw [List.take_one, List.head?_drop, hqo]; rfl
                    rw [hone] at hp1 hq1 hc1
                    rw [ep] at hp1 hc1
                    rw [eq] at hq1 hc1
                    have hnagg : ∀ (v : Value) (p : PV), VR w O v p → p.ck ≠ none → ∀ a, v ≠ .agg a := by
                      intro v p hv hk a e
                      subst e
                      cases p <;> first | (exact absurd rfl hk) | (cases hv)
                    have kp : p.ck ≠ none := by
                      obtain ⟨k, rfl⟩ : ∃ k, kf = [k] := List.length_eq_one_iff.1 hone
                      have : p.ck = some k := by simpa using hp1
                      rw [this]; simp
                    have kq : q.ck ≠ none := by
                      obtain ⟨k, rfl⟩ : ∃ k, kf = [k] := List.length_eq_one_iff.1 hone
                      have : q.ck = some k := by simpa using hq1
                      rw [this]; simp
                    have na := hnagg va p hvp kp
                    have nb := hnagg vb q hvq kq
                    refine ih f.type d va vb kf [p] [q] r1 hkf ?_ ?_ (fun ⟨fs, e⟩ => absurd e (hnos fs)) (fun _ => ⟨na, nb⟩) hp1 hq1 hc1
                    · rw [cells_of_noagg na]
                      refine ⟨rfl, fun i v p' hv hp' => ?_⟩
                      cases i with
                      | zero => simp at hv hp'; subst hv; subst hp'; exact hvp
                      | succ i => simp at hp'
                    · rw [cells_of_noagg nb]
                      refine ⟨rfl, fun i v p' hv hp' => ?_⟩
                      cases i with
                      | zero => simp at hv hp'; subst hv; subst hp'; exact hvq
                      | succ i => simp at hp'
                  · refine ⟨_, _, part_row hdf rfl, part_row hdf rfl, ?_⟩
                    refine ih f.type d _ _ kf _ _ r1 hkf ?_ ?_ (fun _ => ⟨⟨_, rfl⟩, ⟨_, rfl⟩⟩) (fun h => absurd hdf (h ffs)) hp1 hq1 hc1
                    · rw [hoff, ← hlen]; exact cr_drop ha o kf.length (by omega)
                    · rw [hoff, ← hlen]; exact cr_drop hb o kf.length (by omega)
                obtain ⟨va, vb, h1, h2, h3⟩ := hpart
                simp only [Op.eqFields, hname, ne_eq, not_false_eq_true, if_true, Sem.run_bind, h1, h2, h3, Result.andThen_ok]
                cases r1 with
                | true => simpa using hrest
                | false => simp
              · cases hk
            · cases hk
        exact key fs.toList 0 ks r h (by simpa using hp) (by simpa using hq) (by simpa using hc)
    · cases h
end
end Go.Proofs.Ythdgdngdfijfhaa
namespace Go.Proofs.Ythdgdngdfijfhaa
open Go.RowKit
set_option linter.unusedVariables false
set_option linter.unusedSimpArgs false
section
variable {P : Program} {w : World} {O : Nat → Prop}
theorem equal_bool {t : TypeId} (a b : Bool) (hu : P.underlying t = some .bool) : (Op.equal t (.bool a) (.bool b)).run P w = .ok (a == b) w := run_equalIn_bool' w 9999 t a b hu
theorem equalIn_nilslice {t e : TypeId} (d : Nat) (a : Option Addr) (l c : Nat) (hu : P.underlying t = some (.slice e)) : (Op.equalIn (d + 1) t (.slice a l c) (.slice none 0 0)).run P w = .ok a.isNone w := by
  cases a <;> simp [Op.equalIn, run_underlying hu]
theorem equal_nilslice {t e : TypeId} (a : Option Addr) (l c : Nat) (hu : P.underlying t = some (.slice e)) : (Op.equal t (.slice a l c) (.slice none 0 0)).run P w = .ok a.isNone w := equalIn_nilslice 9999 a l c hu
theorem binOp_eql_bool (t : TypeId) (a b : Bool) : (binOp .eql t (.bool a) (.bool b)).run P w = ((Op.equal t (.bool a) (.bool b)).run P w).andThen fun r w' => .ok (.bool r) w' := by
  simp only [binOp, Sem.run_bind, Sem.run_pure]
theorem binOp_neq_bool (t : TypeId) (a b : Bool) : (binOp .neq t (.bool a) (.bool b)).run P w = ((Op.equal t (.bool a) (.bool b)).run P w).andThen fun r w' => .ok (.bool (!r)) w' := by
  simp only [binOp, Sem.run_bind, Sem.run_pure]
theorem binOp_eql_slice (t : TypeId) (a b : Option Addr) (l c l' c' : Nat) : (binOp .eql t (.slice a l c) (.slice b l' c')).run P w = ((Op.equal t (.slice a l c) (.slice b l' c')).run P w).andThen fun r w' => .ok (.bool r) w' := by
  simp only [binOp, Sem.run_bind, Sem.run_pure]
theorem binOp_neq_slice (t : TypeId) (a b : Option Addr) (l c l' c' : Nat) : (binOp .neq t (.slice a l c) (.slice b l' c')).run P w = ((Op.equal t (.slice a l c) (.slice b l' c')).run P w).andThen fun r w' => .ok (.bool (!r)) w' := by
  simp only [binOp, Sem.run_bind, Sem.run_pure]
theorem pvBin_run {op : BinOp} {t yt : TypeId} {x y : Operand} {va vb : Value} {pa pb p : PV} (ha : VR w O va pa) (hb : VR w O vb pb) (h : pvBin P op t pa pb = some p) :
    ∃ v, (do eqGuard op t x y va vb; binOp op t va vb : Sem Value).run P w = .ok v w ∧ VR w O v p := by
  unfold pvBin at h
  split at h
  · rename_i k a k' b
    rw [ha.int_inv, hb.int_inv]
    simp only [Sem.run_bind, eqGuard_int, Result.andThen_ok]
    split at h
    · split at h
      · cases h
      · rename_i hn
        obtain rfl := Option.some.inj h
        exact ⟨_, by simp [binOp, Op.shift, hn], .int _ _⟩
    · split at h
      · cases h
      · rename_i hn
        obtain rfl := Option.some.inj h
        exact ⟨_, by simp [binOp, Op.shift, hn], .int _ _⟩
    · rename_i h1 h2
      split at h
      · rename_i hk
        subst hk
        exact intBin_run h1 h2 h
      · cases h
  · rw [ha.str_inv, hb.str_inv]
    simp only [Sem.run_bind, eqGuard_str, Result.andThen_ok]
    exact strCmp_run h
  · rename_i a b
    rw [ha.bool_inv, hb.bool_inv]
    simp only [Sem.run_bind, eqGuard_bool, Result.andThen_ok]
    split at h
    · rename_i hu
      obtain rfl := Option.some.inj h
      exact ⟨_, by rw [binOp_eql_bool, equal_bool a b hu]; rfl, .bool _⟩
    · rename_i hu
      obtain rfl := Option.some.inj h
      exact ⟨_, by rw [binOp_neq_bool, equal_bool a b hu]; rfl, .bool _⟩
    · cases h
  · rename_i k xs
    cases hb with
    | list k' xs' a' cap' sz' cs' h1 h2 h3 h4 h5 h6 h7 =>
    obtain ⟨rfl, rfl⟩ := h2 rfl
    cases ha with
    | list _ _ a cap sz cs g1 g2 g3 g4 g5 g6 g7 =>
    simp only [Sem.run_bind, eqGuard_slice, Result.andThen_ok, List.length_nil]
    have isn : ∀ (hu : ∃ e, P.underlying t = some (.slice e)), (Op.equal t (.slice a xs.length cap) (.slice none 0 0)).run P w = .ok a.isNone w := by
      rintro ⟨e, hu⟩
      exact equal_nilslice a xs.length cap hu
    split at h
    · rename_i e hu
      have hi := isn ⟨e, hu⟩
      split at h
      · rename_i hk
        obtain rfl := Option.some.inj h
        obtain ⟨rfl, _⟩ := g2 hk
        exact ⟨.bool true, by first | (rw [binOp_eql_slice, hi]; rfl) | (rw [binOp_neq_slice, hi]; rfl), .bool _⟩
      · split at h
        · rename_i hne
          obtain rfl := Option.some.inj h
          obtain ⟨b, rfl⟩ : ∃ b, a = some b := by
            rcases hne with e | e
            · cases a with
              | none => exact absurd rfl (g3.2.1 e)
              | some b => exact ⟨b, rfl⟩
            · obtain ⟨b, o, h, _⟩ := g6 e; exact ⟨_, h⟩
          exact ⟨.bool false, by first | (rw [binOp_eql_slice, hi]; rfl) | (rw [binOp_neq_slice, hi]; rfl), .bool _⟩
        · cases h
    · rename_i e hu
      have hi := isn ⟨e, hu⟩
      split at h
      · rename_i hk
        obtain rfl := Option.some.inj h
        obtain ⟨rfl, _⟩ := g2 hk
        exact ⟨.bool false, by first | (rw [binOp_eql_slice, hi]; rfl) | (rw [binOp_neq_slice, hi]; rfl), .bool _⟩
      · split at h
        · rename_i hne
          obtain rfl := Option.some.inj h
          obtain ⟨b, rfl⟩ : ∃ b, a = some b := by
            rcases hne with e | e
            · cases a with
              | none => exact absurd rfl (g3.2.1 e)
              | some b => exact ⟨b, rfl⟩
            · obtain ⟨b, o, h, _⟩ := g6 e; exact ⟨_, h⟩
          exact ⟨.bool true, by first | (rw [binOp_eql_slice, hi]; rfl) | (rw [binOp_neq_slice, hi]; rfl), .bool _⟩
        · cases h
    · cases h
  · rename_i xs ys
    obtain ⟨as, rfl, ha1, ha2⟩ := ha.agg_inv
    obtain ⟨bs, rfl, hb1, hb2⟩ := hb.agg_inv
    split at h
    · rename_i ks hks
      split at h
      · rename_i hkk
        unfold flatEq at hks
        split at hks
        · rename_i fs hu
          split at hks
          · cases hks
          · rename_i hg
            have hrun : ∀ r, cellsEq xs ys = some r → (Op.equalIn 10000 t (.agg as) (.agg bs)).run P w = .ok r w := fun r hr =>
              equalIn_flat 8 t 9992 (.agg as) (.agg bs) ks xs ys r hks ⟨ha1, ha2⟩ ⟨hb1, hb2⟩ (fun _ => ⟨⟨_, rfl⟩, ⟨_, rfl⟩⟩) (fun h => absurd hu (h fs)) hkk.1 hkk.2 hr
            have hgr := run_eqGuard_agg (P := P) w op t x y as bs (by simpa using hg)
            simp only [Sem.run_bind, hgr, Result.andThen_ok]
            split at h
            · obtain ⟨r, hr, rfl⟩ := Option.map_eq_some_iff.1 h
              exact ⟨_, by rw [run_eql_struct, hrun r hr]; rfl, .bool _⟩
            · obtain ⟨r, hr, rfl⟩ := Option.map_eq_some_iff.1 h
              exact ⟨_, by rw [run_neq_struct, hrun r hr]; rfl, .bool _⟩
            · cases h
        · cases hks
      · cases h
    · cases h
  · cases h
theorem pvUn_run {op : UnOp} {va : Value} {pa p : PV} (ha : VR w O va pa) (h : pvUn op pa = some p) : ∃ v, (Op.unary op va).run P w = .ok v w ∧ VR w O v p := by
  unfold pvUn at h
  split at h
  · rw [ha.bool_inv]
    split at h
    · obtain rfl := Option.some.inj h; exact ⟨_, by simp [Op.unary], .bool _⟩
    · cases h
  · rw [ha.int_inv]
    split at h
    · obtain rfl := Option.some.inj h; exact ⟨_, by simp [Op.unary, Op.intArith], .int _ _⟩
    · obtain rfl := Option.some.inj h; exact ⟨_, by simp [Op.unary, Op.intBits], .int _ _⟩
    · cases h
  · cases h
theorem pvConv_run {src dst : TypeId} {va : Value} {pa p : PV} (ha : VR w O va pa) (h : pvConv P src dst pa = some p) : ∃ v, (convert src dst va).run P w = .ok v w ∧ VR w O v p := by
  unfold pvConv at h
  split at h
  · rw [ha.int_inv]
    split at h
    · rename_i d k h1 h2
      obtain rfl := Option.some.inj h
      refine ⟨_, ?_, .int _ _⟩
      unfold convert
      simp only [Sem.run_bind, run_underlying h1, run_underlying h2, Result.andThen_ok]
      simp [Conv.intToInt]
    · cases h
  · rw [ha.str_inv]
    split at h
    · rename_i h1 h2
      obtain rfl := Option.some.inj h
      refine ⟨_, ?_, .str _⟩
      unfold convert
      simp only [Sem.run_bind, run_underlying h1, run_underlying h2, Result.andThen_ok]
      rfl
    · cases h
  · cases h
theorem pvMinMax_run {mx : Bool} {vs : Array Value} {ps : List PV} {p : PV} (hl : vs.size = ps.length) (hv : ∀ (i : Nat) v p, vs[i]? = some v → ps[i]? = some p → VR w O v p)
    (h : pvMinMax mx ps = some p) (ts : Array TypeId) (ty : TypeId) : ∃ v, (if mx then Builtin.max_ ts ty vs else Builtin.min_ ts ty vs).run P w = .ok v w ∧ VR w O v p := by
  unfold pvMinMax at h
  split at h
  · rename_i k a k' b
    obtain rfl := Option.some.inj h
    obtain ⟨vs⟩ := vs
    match vs, hl with
    | [x, y], _ =>
      have hx := hv 0 x _ rfl rfl
      have hy := hv 1 y _ rfl rfl
      rw [hx.int_inv, hy.int_inv]
      cases mx
      · refine ⟨_, ?_, .int _ _⟩
        simp [Builtin.min_, Builtin.min2]
      · refine ⟨_, ?_, .int _ _⟩
        simp [Builtin.max_, Builtin.max2]
  · cases h
end
end Go.Proofs.Ythdgdngdfijfhaa
namespace Go.Proofs.Ythdgdngdfijfhaa
open Go.RowKit
set_option linter.unusedVariables false
set_option linter.unusedSimpArgs false
section
variable {P : Program} {w : World} {O : Nat → Prop}
theorem info_of_under {t : TypeId} {d : TypeDesc} (hu : P.underlying t = some d) : ∃ i, P.info? t = some i ∧ i.size = P.cellsOf t := by
  have h := size_info hu
  cases hi : P.info? t with
  | none => simp [hi] at h
  | some i => exact ⟨i, rfl, by simpa [hi] using h⟩
theorem info_of_cells {t : TypeId} (h : P.cellsOf t ≠ 0) : ∃ i, P.info? t = some i ∧ i.size = P.cellsOf t := by
  unfold Program.cellsOf at h ⊢
  cases hi : P.info? t with
  | none => simp [hi] at h
  | some i => exact ⟨i, rfl, by simp⟩
theorem run_sizeOf_cells {t : TypeId} (h : P.cellsOf t ≠ 0) : (sizeOf t).run P w = .ok (P.cellsOf t) w := by
  obtain ⟨i, hi, hs⟩ := info_of_cells h
  simp [sizeOf, typeInfo, hi, hs]
theorem cell_at {b j : Nat} {cs : Array Value} {t : TypeId} {fr : Nat × Nat} (h : w.heap[b]? = some (.cells cs t fr)) : w.cell? ⟨b, j, none⟩ = cs[j]? := by
  simp [World.cell?, h]
theorem range_drop {b o : Nat} {cs : List Value} (h : w.rangeAt b o cs) (n : Nat) : w.rangeAt b (o + n) (cs.drop n) := fun j v hv => by
  rw [List.getElem?_drop] at hv
  have := h _ _ hv
  rwa [Nat.add_assoc]
theorem range_take {b o : Nat} {cs : List Value} (h : w.rangeAt b o cs) (n : Nat) : w.rangeAt b o (cs.take n) := fun j v hv => by
  have hj : j < n := by
    have := (List.getElem?_eq_some_iff.1 hv).1
    simp at this; omega
  rw [List.getElem?_take_of_lt hj] at hv
  exact h _ _ hv
theorem cptr_drop {v : Value} {cs : List PV} (h : VR w O v (.cptr cs)) (n : Nat) (hn : n ≤ cs.length) : ∃ b o, v = .pointer (some ⟨b, o, none⟩) ∧ VR w O (.pointer (some ⟨b, o + n, none⟩)) (.cptr (cs.drop n)) := by
  cases h with
  | cptr b o ps vs hlt hO hlen hmem hel =>
    refine ⟨b, o, rfl, .cptr b (o + n) _ (vs.drop n) hlt hO (by simp; omega) (range_drop hmem n) (fun i v p hv hp => ?_)⟩
    rw [List.getElem?_drop] at hv hp
    exact hel _ _ _ hv hp
theorem fieldAt_run {t : TypeId} {fs : Array Field} {f : Nat} {fd : Field} {b o : Nat} (hu : P.underlying t = some (.struct fs)) (hf : fs[f]? = some fd) (hz : P.cellsOf fd.type ≠ 0) :
    (Instr.fieldAt t (.pointer (some ⟨b, o, none⟩)) f).run P w = .ok (.pointer (some ⟨b, o + fd.offset, none⟩)) w := by
  simp [Instr.fieldAt, Instr.sureAddr, run_underlying hu, hf, fieldPlace, run_sizeOf_cells hz, hz, Addr.add_mid]
theorem loadAt_cptr {t : TypeId} {v : Value} {cs : List PV} {q : PV} (h : VR w O v (.cptr cs)) (hl : loadCs P t cs 0 = some q) : ∃ u, (Instr.loadAt t v).run P w = .ok u w ∧ VR w O u q := by
  cases h with
  | cptr b o ps vs hlt hO hlen hmem hel =>
    obtain ⟨u, hu, hv⟩ := run_loadCs (P := P) (off := 0) hmem (by omega) hel hl
    exact ⟨u, by simpa [Instr.loadAt, Instr.sureAddr] using hu, hv⟩
theorem row_of {X : Nat → Prop} {H : Hp} {l : Lab} {sz : Nat} {xs : List PV} (h : rowOf H l sz = some xs) : ∃ m, H l = some (.row m sz xs) := by
  unfold rowOf at h
  split at h
  · rename_i m sz' xs' e
    split at h
    · rename_i hs; subst hs; obtain rfl := Option.some.inj h; exact ⟨m, e⟩
    · cases h
  · cases h
theorem ownRow_of {H : Hp} {l : Lab} {sz : Nat} {xs : List PV} (h : ownRow H l sz = some xs) : H l = some (.row true sz xs) := by
  unfold ownRow at h
  split at h
  · rename_i sz' xs' e
    split at h
    · rename_i hs; subst hs; obtain rfl := Option.some.inj h; exact e
    · cases h
  · cases h
theorem loadAt_ref {X : Nat → Prop} {H : Hp} {t : TypeId} {v : Value} {l : Lab} {sz i off : Nat} {xs : List PV} {x q : PV} (hH : HR w X H) (h : VR w O v (.ref l sz i off))
    (hr : rowOf H l sz = some xs) (hx : xs[i]? = some x) (hl : loadCs P t x.cells off = some q) : ∃ u, (Instr.loadAt t v).run P w = .ok u w ∧ VR w (both X H) u q := by
  cases h with
  | ref b sz i off =>
    obtain ⟨m, hm⟩ := row_of (X := X) hr
    obtain ⟨hsz, hX, cs, ty, hb, hle, hel⟩ := hH _ _ _ _ hm
    have hxs := hsz x (mem_of_get hx)
    have hfl := flat_len hsz
    have hi : i < xs.length := (List.getElem?_eq_some_iff.1 hx).1
    have hmul : i * sz + sz ≤ xs.length * sz := by
      have := Nat.mul_le_mul_right sz (Nat.succ_le_of_lt hi)
      rwa [Nat.succ_mul] at this
    have hrange : w.rangeAt b (i * sz) (cs.toList.drop (i * sz)) := fun j v hv => by
      rw [List.getElem?_drop, Array.getElem?_toList] at hv
      rw [cell_at hb]; exact hv
    obtain ⟨u, hu, hv⟩ := run_loadCs (P := P) (O := both X H) (off := off) (ps := x.cells) hrange (by simp; omega) (fun j v p hv hp => by
      rw [List.getElem?_drop, Array.getElem?_toList] at hv
      refine hel _ _ _ hv ?_
      have hj : j < sz := by rw [← hxs]; exact (List.getElem?_eq_some_iff.1 hp).1
      rw [flat_get hsz i x j hx hj]; exact hp) hl
    exact ⟨u, by simpa [Instr.loadAt, Instr.sureAddr] using hu, hv⟩
theorem indexAt_slice {t e : TypeId} {a : Addr} {len cap : Nat} {k : IntKind} {n : Int} (hu : P.underlying t = some (.slice e)) (h0 : 0 ≤ n) (h1 : n < len) (hz : P.cellsOf e ≠ 0) :
    (Instr.indexAt t (.slice (some a) len cap) (.int k n)).run P w = .ok (.pointer (some (a.add (n.toNat * P.cellsOf e)))) w := by
  simp [Instr.indexAt, asIntOf, run_underlying hu, h0, h1, run_sizeOf_cells hz]
theorem index_list {t e : TypeId} {v : Value} {kd : LK} {xs : List PV} {k : IntKind} {n : Int} {x : PV} (h : VR w O v (.list kd xs)) (hu : P.underlying t = some (.slice e)) (h0 : 0 ≤ n) (h1 : n < xs.length)
    (hx : xs[n.toNat]? = some x) (hc : x.cells.length = P.cellsOf e) (hz : P.cellsOf e ≠ 0) : ∃ u, (Instr.indexAt t v (.int k n)).run P w = .ok u w ∧ VR w O u (.cptr x.cells) := by
  cases h with
  | list k' xs a cap sz cs g1 g2 g3 g4 g5 g6 g7 =>
    have hne : xs ≠ [] := by intro e; subst e; simp at hx
    obtain ⟨b, o, rfl, hlt, hO, hr⟩ := g6 hne
    have hs : sz = P.cellsOf e := by rw [← g5 x (mem_of_get hx), hc]
    subst hs
    refine ⟨_, indexAt_slice hu h0 h1 hz, ?_⟩
    rw [Addr.add_mid]
    have hfl := flat_len g5
    have hi : n.toNat < xs.length := (List.getElem?_eq_some_iff.1 hx).1
    have hmul : n.toNat * P.cellsOf e + P.cellsOf e ≤ xs.length * P.cellsOf e := by
      have := Nat.mul_le_mul_right (P.cellsOf e) (Nat.succ_le_of_lt hi)
      rwa [Nat.succ_mul] at this
    refine .cptr b _ _ ((cs.drop (n.toNat * P.cellsOf e)).take (P.cellsOf e)) hlt hO (by simp; omega) (range_take (range_drop hr _) _) (fun j v p hv hp => ?_)
    have hj : j < P.cellsOf e := by
      have := (List.getElem?_eq_some_iff.1 hv).1
      simp at this; omega
    rw [List.getElem?_take_of_lt hj, List.getElem?_drop] at hv
    exact g7 _ _ _ hv (by rw [flat_get g5 _ x j hx hj]; exact hp)
theorem index_arr {t e : TypeId} {v : Value} {l : Lab} {sz lo len : Nat} {k : IntKind} {n : Int} (h : VR w O v (.arr l sz lo len)) (hu : P.underlying t = some (.slice e)) (h0 : 0 ≤ n) (h1 : n < len)
    (hs : sz = P.cellsOf e) (hz : P.cellsOf e ≠ 0) : ∃ u, (Instr.indexAt t v (.int k n)).run P w = .ok u w ∧ VR w O u (.ref l sz (lo + n.toNat) 0) := by
  subst hs
  cases h with
  | arr0 l sz lo a => omega
  | arr b sz lo len cap cs ty fr hcap hb hfit =>
    refine ⟨_, indexAt_slice hu h0 h1 hz, ?_⟩
    rw [Addr.add_mid]
    have e1 : lo * P.cellsOf e + n.toNat * P.cellsOf e = (lo + n.toNat) * P.cellsOf e + 0 := by rw [Nat.add_mul]; omega
    rw [e1]
    exact .ref b (P.cellsOf e) (lo + n.toNat) 0
theorem indexAt_array {t e : TypeId} {len b o : Nat} {k : IntKind} {n : Int} (hu : P.underlying t = some (.array len e)) (h0 : 0 ≤ n) (h1 : n < len) (hz : P.cellsOf e ≠ 0) :
    (Instr.indexAt t (.pointer (some ⟨b, o, none⟩)) (.int k n)).run P w = .ok (.pointer (some ⟨b, o + n.toNat * P.cellsOf e, none⟩)) w := by
  simp [Instr.indexAt, asIntOf, Instr.sureAddr, run_underlying hu, h0, h1, run_sizeOf_cells hz, Addr.add_mid]
theorem bound_run {x : Operand} {s : St} {v : Value} {n : Int} {y : Nat} {code : BoundsCode} (hv : VR w O v (evo s x)) (hb : boundOf s 0 (some x) = some n) (h0 : 0 ≤ n) (h1 : n ≤ y) :
    (Instr.sliceBound v y code).run P w = .ok n.toNat w := by
  unfold boundOf at hb
  simp only at hb
  split at hb
  · rename_i k m e
    obtain rfl := Option.some.inj hb
    rw [e] at hv
    rw [hv.int_inv]
    exact run_sliceBound w k m y code h0 h1
  · cases hb
end
end Go.Proofs.Ythdgdngdfijfhaa
namespace Go.Proofs.Ythdgdngdfijfhaa
open Go.RowKit
set_option linter.unusedVariables false
set_option linter.unusedSimpArgs false
section
variable {P : Program} {w : World} {O : Nat → Prop}
theorem bounds_run {s : St} {lo hi : Option Operand} {ev : Operand → Value} {isS : Bool} {len cap : Nat} {a b : Int} (hev : ∀ x, VR w O (ev x) (evo s x))
    (ha : boundOf s 0 lo = some a) (hb : boundOf s len hi = some b) (h0 : 0 ≤ a) (h1 : a ≤ b) (h2 : b ≤ len) (hlc : len ≤ cap) :
    (Instr.sliceBounds isS len cap (lo.map ev) (hi.map ev) none).run P w = .ok (a.toNat, b.toNat, cap) w := by
  have hlo : ∀ (y : Nat) (code : BoundsCode) (x : Operand), lo = some x → a ≤ y → (Instr.sliceBound (ev x) y code).run P w = .ok a.toNat w := by
    intro y code x hx hy
    subst hx
    exact bound_run (hev x) ha h0 hy
  have hhi : ∀ (y : Nat) (code : BoundsCode) (x : Operand), hi = some x → b ≤ y → (Instr.sliceBound (ev x) y code).run P w = .ok b.toNat w := by
    intro y code x hx hy
    subst hx
    have hb' : boundOf s 0 (some x) = some b := by simpa [boundOf] using hb
    exact bound_run (hev x) hb' (by omega) hy
  cases lo with
  | none =>
    obtain rfl : 0 = a := by simpa [boundOf] using ha
    cases hi with
    | none =>
      obtain rfl : (len : Int) = b := by simpa [boundOf] using hb
      simp [Instr.sliceBounds]
    | some y => simp [Instr.sliceBounds, hhi cap _ y rfl (by omega)]
  | some x =>
    cases hi with
    | none =>
      obtain rfl : (len : Int) = b := by simpa [boundOf] using hb
      simp [Instr.sliceBounds, hlo len _ x rfl h1]
    | some y => simp [Instr.sliceBounds, hhi cap _ y rfl (by omega), hlo b.toNat _ x rfl (by omega)]
theorem bounds3_run {s : St} {lo : Option Operand} {y m : Operand} {ev : Operand → Value} {len cap : Nat} {a b : Int} {k : IntKind} (hev : ∀ x, VR w O (ev x) (evo s x))
    (ha : boundOf s 0 lo = some a) (hb : boundOf s len (some y) = some b) (hm : evo s m = .int k b) (h0 : 0 ≤ a) (h1 : a ≤ b) (h2 : b ≤ len) (hlc : len ≤ cap) :
    (Instr.sliceBounds true len cap (lo.map ev) (some (ev y)) (some (ev m))).run P w = .ok (a.toNat, b.toNat, b.toNat) w := by
  have hb' : boundOf s 0 (some y) = some b := by simpa [boundOf] using hb
  have hm' : boundOf s 0 (some m) = some b := by simp [boundOf, hm]
  have e1 : ∀ code, (Instr.sliceBound (ev m) cap code).run P w = .ok b.toNat w := fun code => bound_run (hev m) hm' (by omega) (by omega)
  have e2 : ∀ code, (Instr.sliceBound (ev y) b.toNat code).run P w = .ok b.toNat w := fun code => bound_run (hev y) hb' (by omega) (by omega)
  cases lo with
  | none =>
    obtain rfl : 0 = a := by simpa [boundOf] using ha
    simp [Instr.sliceBounds, e1, e2]
  | some x =>
    have e3 : ∀ code, (Instr.sliceBound (ev x) b.toNat code).run P w = .ok a.toNat w := fun code => bound_run (hev x) ha h0 (by omega)
    simp [Instr.sliceBounds, e1, e2, e3]
theorem VR.tight {v : Value} {k : LK} {xs : List PV} (h : VR w O v (.list k xs)) : ∃ a cap, v = .slice a xs.length cap ∧ (k.loose = false → cap = xs.length) := by
  cases h with
  | list _ _ a cap _ _ g1 g2 g3 =>
    refine ⟨a, cap, rfl, fun hm => ?_⟩
    cases k
    · cases hm
    · exact g3.1 rfl
    · have := (g2 rfl).2; omega
    · cases hm
theorem list_cut {v : Value} {kd : LK} {xs : List PV} {sz : Nat} (h : VR w O v (.list kd xs)) (hsz : ∀ x ∈ xs, x.cells.length = sz) {a b : Nat} (hab : a ≤ b) (hb : b ≤ xs.length) :
    ∃ ad cap, v = .slice ad xs.length cap ∧ xs.length ≤ cap ∧ ∀ m, b ≤ m → m ≤ cap → ∀ k', (k' = .any ∨ k' = .full ∧ m = b) →
      VR w O (.slice (if m = a then ad else ad.map (·.add (a * sz))) (b - a) (m - a)) (.list k' ((xs.take b).drop a)) := by
  cases h with
  | list k' xs ad cap sz' cs g1 g2 g3 g4 g5 g6 g7 =>
    refine ⟨ad, cap, rfl, g1, fun m hm hmc k' hk' => ?_⟩
    have hl : ((xs.take b).drop a).length = b - a := by simp; omega
    have hsz2 : ∀ x ∈ (xs.take b).drop a, x.cells.length = sz := fun x hx => hsz x (List.mem_of_mem_take (List.mem_of_mem_drop hx))
    have hfl : flat ((xs.take b).drop a) = ((flat xs).take (b * sz)).drop (a * sz) := by
      rw [flat_drop (fun x hx => hsz x (List.mem_of_mem_take hx)), flat_take hsz]
    rw [← hl]
    refine .list k' _ _ _ sz ((cs.take (b * sz)).drop (a * sz)) (by omega) (fun e => ?_) ⟨fun e => ?_, (fun e => by rcases hk' with rfl | ⟨rfl, _⟩ <;> cases e), (fun e => by
        by_cases hma : m = a
        · omega
        · rw [if_neg hma] at e
          have := g3.2.2 (by simpa using e)
          omega)⟩ (by rw [hfl]; simp; omega) hsz2 (fun hne => ?_) (fun i v p hv hp => ?_)
    · rcases hk' with rfl | ⟨rfl, _⟩ <;> cases e
    · rcases hk' with rfl | ⟨rfl, rfl⟩
      · cases e
      · omega
    · have hba : a < b := by
        rcases Nat.lt_or_ge a b with h | h
        · exact h
        · exact absurd (List.eq_nil_of_length_eq_zero (by omega)) hne
      have hxs : xs ≠ [] := by intro e; subst e; simp at hb; omega
      obtain ⟨bl, o, rfl, hlt, hO, hr⟩ := g6 hxs
      rw [if_neg (by omega)]
      exact ⟨bl, o + a * sz, by simp [Addr.add_mid], hlt, hO, range_drop (range_take hr _) _⟩
    · rw [hfl] at hp
      rw [List.getElem?_drop] at hv hp
      have hi : a * sz + i < b * sz := by
        have := (List.getElem?_eq_some_iff.1 hp).1
        simp at this; omega
      rw [List.getElem?_take_of_lt hi] at hv hp
      exact g7 _ _ _ hv hp
theorem all_cells {xs : List PV} {n : Nat} (h : xs.all (fun x => x.cells.length == n) = true) : ∀ x ∈ xs, x.cells.length = n := by
  intro x hx
  simpa using List.all_eq_true.1 h x hx
theorem pvSlice_run {s : St} {t : TypeId} {v : Value} {x p : PV} {lo hi mx : Option Operand} {ev : Operand → Value} {X : Nat → Prop} (hev : ∀ x, VR w (both X s.H) (ev x) (evo s x))
    (hv : VR w (both X s.H) v x) (hH : HR w X s.H) (h : pvSlice P s t x lo hi mx = some p) :
    ∃ u, (Instr.sliceAt t v (lo.map ev) (hi.map ev) (mx.map ev)).run P w = .ok u w ∧ VR w (both X s.H) u p := by
  unfold pvSlice at h
  split at h
  · rename_i l hu
    obtain ⟨a, ha, h⟩ := Option.bind_eq_some_iff.1 h
    obtain ⟨b, hb, h⟩ := Option.bind_eq_some_iff.1 h
    split at h
    · rename_i hc
      obtain ⟨hm, h0, h1, h2⟩ := hc
      obtain rfl := Option.some.inj h
      rw [hv.str_inv]
      cases mx with
      | some m => cases hm
      | none =>
        have hs : (⟨l.toArray⟩ : ByteArray).size = l.length := by simp [ByteArray.size]
        have hbd := bounds_run (P := P) (isS := false) (cap := l.length) hev ha hb h0 h1 h2 (Nat.le_refl _)
        refine ⟨.string ((⟨l.toArray⟩ : ByteArray).extract a.toNat b.toNat), ?_, ?_⟩
        · simp only [Instr.sliceAt, Sem.run_bind, run_underlying hu, Result.andThen_ok, Instr.slice, hs, Option.map_none, hbd, Option.isSome_none, Bool.false_eq_true, if_false]
          rfl
        · have : (⟨l.toArray⟩ : ByteArray).extract a.toNat b.toNat = ⟨((l.take b.toNat).drop a.toNat).toArray⟩ := by
            apply ByteArray.ext
            simp [ByteArray.data_extract, List.extract_eq_take_drop, List.drop_take]
          rw [this]
          exact .str _
    · cases h
  · rename_i e k xs hu
    obtain ⟨a, ha, h⟩ := Option.bind_eq_some_iff.1 h
    obtain ⟨b, hb, h⟩ := Option.bind_eq_some_iff.1 h
    have sub : (∀ x ∈ xs, x.cells.length = P.cellsOf e) → P.cellsOf e ≠ 0 → ∀ (md : Bool) k', (k' = .any ∨ k' = .full ∧ (md = true ∨ (k.loose = false ∧ b.toNat = xs.length))) → 0 ≤ a → a ≤ b → b ≤ xs.length →
        (∀ cap, xs.length ≤ cap → (Instr.sliceBounds true xs.length cap (lo.map ev) (hi.map ev) (mx.map ev)).run P w = .ok (a.toNat, b.toNat, if md then b.toNat else cap) w) →
        ∃ u, (Instr.sliceAt t v (lo.map ev) (hi.map ev) (mx.map ev)).run P w = .ok u w ∧ VR w (both X s.H) u (.list k' ((xs.take b.toNat).drop a.toNat)) := by
      intro hall hz md k' hk' h0 h1 h2 hbd
      have ht := hv.tight
      obtain ⟨ad, cap, rfl, hcap, hcut⟩ := list_cut hv hall (a := a.toNat) (b := b.toNat) (by omega) (by omega)
      refine ⟨_, ?_, hcut (if md then b.toNat else cap) (by split <;> omega) (by split <;> omega) k' ?_⟩
      · simp only [Instr.sliceAt, Sem.run_bind, run_underlying hu, Result.andThen_ok, Instr.slice, hbd cap hcap, run_sizeOf_cells hz]
        rfl
      · rcases hk' with h | ⟨h, hm⟩
        · exact .inl h
        · refine .inr ⟨h, ?_⟩
          rcases hm with hm | ⟨hm, hb'⟩
          · simp [hm]
          · have hcl : cap = xs.length := by
              obtain ⟨a', cap', e, h⟩ := ht
              have e2 : cap = cap' := by cases e; rfl
              rw [e2]; exact h hm
            split
            · rfl
            · omega
    split at h
    · split at h
      · rename_i hc
        obtain ⟨h0, h1, h2, hall, hz⟩ := hc
        obtain rfl := Option.some.inj h
        have hk' : sliceK k xs = .any ∨ sliceK k xs = .full ∧ (false = true ∨ (k.loose = false ∧ b.toNat = xs.length)) := by
          cases k <;> cases xs <;> first | exact .inl rfl | (refine .inr ⟨rfl, .inr ⟨rfl, ?_⟩⟩; simp at h2 ⊢; omega)
        refine sub (all_cells hall) hz false _ hk' h0 h1 h2 (fun cap hcap => ?_)
        have := bounds_run (P := P) (isS := true) (cap := cap) hev ha hb h0 h1 h2 hcap
        simpa using this
      · cases h
    · rename_i m
      split at h
      · rename_i km c hm
        split at h
        · rename_i hc
          obtain ⟨h0, h1, rfl, h2, hall, hhi, hz⟩ := hc
          obtain rfl := Option.some.inj h
          cases hi with
          | none => cases hhi
          | some y =>
            refine sub (all_cells hall) hz true .full (.inr ⟨rfl, .inl rfl⟩) h0 h1 h2 (fun cap hcap => ?_)
            have := bounds3_run (P := P) (cap := cap) hev ha hb hm h0 h1 h2 hcap
            simpa using this
        · cases h
      · cases h
  · rename_i e l sz lo' len hu
    obtain ⟨a, ha, h⟩ := Option.bind_eq_some_iff.1 h
    obtain ⟨b, hb, h⟩ := Option.bind_eq_some_iff.1 h
    split at h
    · rename_i hc
      obtain ⟨hm, h0, h1, h2, hs, hz⟩ := hc
      obtain rfl := Option.some.inj h
      subst hs
      cases mx with
      | some m => cases hm
      | none =>
        cases hv with
        | arr0 l sz lo a' =>
          obtain rfl : a = 0 := by omega
          obtain rfl : b = 0 := by omega
          have hbd := bounds_run (P := P) (isS := true) (cap := 0) hev ha hb h0 h1 h2 (Nat.le_refl _)
          refine ⟨.slice a' 0 0, ?_, ?_⟩
          · simp only [Instr.sliceAt, Sem.run_bind, run_underlying hu, Result.andThen_ok, Instr.slice, Option.map_none, hbd, run_sizeOf_cells hz]
            simp
          · exact .arr0 _ _ _ _
        | arr bl sz lo len cap cs ty fr hcap hbk hfit =>
          have hbd := bounds_run (P := P) (isS := true) (cap := cap) hev ha hb h0 h1 h2 hcap
          have hbn : (b - a).toNat = b.toNat - a.toNat := by omega
          refine ⟨.slice (if cap = a.toNat then some ⟨bl, lo' * P.cellsOf e, none⟩ else some ⟨bl, (lo' + a.toNat) * P.cellsOf e, none⟩) (b - a).toNat (cap - a.toNat), ?_, ?_⟩
          · simp only [Instr.sliceAt, Sem.run_bind, run_underlying hu, Result.andThen_ok, Instr.slice, Option.map_none, hbd, run_sizeOf_cells hz, hbn]
            simp [Addr.add_mid, Nat.add_mul]
          · by_cases hca : cap = a.toNat
            · have e1 : (b - a).toNat = 0 := by omega
              have e2 : cap - a.toNat = 0 := by omega
              rw [e1, e2]
              exact .arr0 _ _ _ _
            · rw [if_neg hca]
              refine .arr bl _ _ _ _ cs ty fr (by omega) hbk ?_
              have : lo' + a.toNat + (cap - a.toNat) = lo' + cap := by omega
              rw [this]
              exact hfit
    · cases h
  · cases h
end
end Go.Proofs.Ythdgdngdfijfhaa
namespace Go.Proofs.Ythdgdngdfijfhaa
open Go.RowKit
set_option linter.unusedVariables false
set_option linter.unusedSimpArgs false
section
variable {P : Program} {w : World} {O : Nat → Prop}
theorem CR.cells {v : Value} {p : PV} (h : VR w O v p) (hd : p.isDef = true) : CR w O v.cells p.cells := h.cells hd
theorem ofCell_noagg (v : Value) : (ofCell v).cells = [ofCell v] := by
  unfold ofCell
  split <;> rfl
theorem ofCell_one (w : World) (O : Nat → Prop) (v : Value) : CR w O #[v] (ofCell v).cells := by
  rw [ofCell_noagg]
  refine ⟨rfl, fun i u p hv hp => ?_⟩
  cases i with
  | zero => simp at hv hp; subst hv; subst hp; exact ofCell_VR w O _
  | succ i => simp at hp
theorem ofValue_cells (w : World) (O : Nat → Prop) (v : Value) : CR w O v.cells (ofValue v).cells := by
  cases v
  case agg cs =>
    refine ⟨by simp [Value.cells, ofValue, PV.cells], fun i v p hv hp => ?_⟩
    simp only [Value.cells, ofValue, PV.cells] at hv hp
    rw [List.getElem?_map, Array.getElem?_toList, hv] at hp
    obtain rfl : ofCell v = p := by simpa using hp
    exact ofCell_VR w O v
  all_goals exact ofCell_one w O _
theorem splice_len {α : Type} (cs : List α) (off : Nat) (new : List α) (h : off + new.length ≤ cs.length) : (splice cs off new).length = cs.length := by
  simp [splice]; omega
theorem splice_get {α : Type} (cs : List α) (off : Nat) (new : List α) (h : off + new.length ≤ cs.length) (i : Nat) :
    (splice cs off new)[i]? = if off ≤ i ∧ i < off + new.length then new[i - off]? else cs[i]? := by
  unfold splice
  rcases Nat.lt_or_ge i off with h1 | h1
  · rw [if_neg (by omega), List.append_assoc, List.getElem?_append_left (by simp; omega), List.getElem?_take_of_lt h1]
  · rcases Nat.lt_or_ge i (off + new.length) with h2 | h2
    · rw [if_pos ⟨h1, h2⟩, List.getElem?_append_left (by simp; omega), List.getElem?_append_right (by simp; omega)]
      simp [Nat.min_eq_left (show off ≤ cs.length by omega)]
    · rw [if_neg (by omega), List.getElem?_append_right (by simp; omega), List.getElem?_drop]
      congr 1
      simp; omega
theorem foldl_set (off : Nat) : ∀ (vs : List Value) (k : Nat) (cs : Array Value), off + k + vs.length ≤ cs.size →
    ((vs.zipIdx k).foldl (fun cs (x : Value × Nat) => cs.setIfInBounds (off + x.2) x.1) cs).toList = splice cs.toList (off + k) vs
  | [], k, cs, h => by simp [splice]
  | v :: vs, k, cs, h => by
    simp only [List.length_cons] at h
    have hs : (cs.setIfInBounds (off + k) v).size = cs.size := by simp
    rw [List.zipIdx_cons, List.foldl_cons, foldl_set off vs (k + 1) _ (by rw [hs]; omega)]
    apply List.ext_getElem?
    intro i
    have L := splice_get (cs.setIfInBounds (off + k) v).toList (off + (k + 1)) vs (by simp; omega) i
    have R := splice_get cs.toList (off + k) (v :: vs) (by simp; omega) i
    rw [L, R, Array.toList_setIfInBounds, List.getElem?_set]
    simp only [List.length_cons]
    by_cases h1 : off + k = i
    · subst h1
      rw [if_neg (by omega), if_pos rfl, if_pos (by simp; omega), if_pos (by omega)]
      simp
    · rw [if_neg h1]
      by_cases h2 : off + (k + 1) ≤ i ∧ i < off + (k + 1) + vs.length
      · rw [if_pos h2, if_pos (by omega)]
        have : i - (off + k) = (i - (off + (k + 1))) + 1 := by omega
        rw [this, List.getElem?_cons_succ]
      · rw [if_neg h2, if_neg (by omega)]
theorem cr_splice {cs : Array Value} {ps : List PV} {vs : Array Value} {qs : List PV} {r : Array Value} (h : CR w O cs ps) (h' : CR w O vs qs) (off : Nat) (hle : off + qs.length ≤ ps.length)
    (hr : r.toList = splice cs.toList off vs.toList) : CR w O r (splice ps off qs) := by
  have hl : r.size = cs.size := by
    rw [← Array.length_toList, hr, splice_len _ _ _ (by have := h.1; have := h'.1; simp; omega), Array.length_toList]
  refine ⟨by rw [hl, h.1, splice_len _ _ _ hle], fun i v p hv hp => ?_⟩
  rw [← Array.getElem?_toList, hr, splice_get _ _ _ (by have := h.1; have := h'.1; simp; omega)] at hv
  rw [splice_get _ _ _ hle] at hp
  rw [Array.length_toList, h'.1] at hv
  split at hv
  · rename_i hi
    rw [if_pos hi] at hp
    rw [Array.getElem?_toList] at hv
    exact h'.2 _ _ _ hv hp
  · rename_i hi
    rw [if_neg hi] at hp
    rw [Array.getElem?_toList] at hv
    exact h.2 _ _ _ hv hp
def PR (w : World) (O : Nat → Prop) : List (Nat × Value) → List (Nat × PV) → Prop
  | [], [] => True
  | (i, v) :: vs, (j, p) :: ps => i = j ∧ VR w O v p ∧ PR w O vs ps
  | _, _ => False
theorem fill_run {place : Nat → Option (Nat × Nat)} : ∀ (vs : List (Nat × Value)) (ps : List (Nat × PV)) (cs : Array Value) (pc : List PV) (pq : List PV), PR w O vs ps → CR w O cs pc →
    fillP place pc ps = some pq → ∃ cq, Instr.fill place cs vs = some cq ∧ CR w O cq pq
  | [], [], cs, pc, pq, _, hc, h => by
    simp only [fillP, Option.some.injEq] at h
    subst h
    exact ⟨cs, rfl, hc⟩
  | (i, v) :: vs, (j, p) :: ps, cs, pc, pq, hp, hc, h => by
    obtain ⟨rfl, hv, hp⟩ := hp
    simp only [fillP] at h
    split at h
    · cases h
    · rename_i off size e
      split at h
      · rename_i hh
        obtain ⟨hd, h1, h2⟩ := hh
        have hcell := hv.cells hd
        have hr := foldl_set off v.cells.toList 0 cs (by have := hc.1; have := hcell.1; simp; omega)
        obtain ⟨cq, hq, hcr⟩ := fill_run vs ps _ _ pq hp (cr_splice hc hcell off h2 (by simpa using hr)) h
        refine ⟨cq, ?_, hcr⟩
        simp only [Instr.fill, e]
        have c1 : ¬ (v.cells.size ≠ size || decide (off + v.cells.size > cs.size)) = true := by
          have := hcell.1; have := hc.1
          simp; omega
        rw [if_neg (by simpa using c1), ← hq]
        congr 1
        rw [← Array.foldl_toList]
        simp
      · cases h
  | [], _ :: _, _, _, _, hp, _, _ => hp.elim
  | _ :: _, [], _, _, _, hp, _, _ => hp.elim
theorem PR.of_map {ev : Operand → Value} {s : St} (hev : ∀ x, VR w O (ev x) (evo s x)) : ∀ (l : List (Nat × Operand)), PR w O (l.map fun q => (q.1, ev q.2)) (l.map fun q => (q.1, evo s q.2))
  | [] => trivial
  | (i, x) :: l => ⟨rfl, hev x, PR.of_map hev l⟩
theorem zero_of {t : TypeId} {z : PV} (h : tzero P t = some z) : ∃ i v, P.info? t = some i ∧ i.zero = some v ∧ z = ofValue v ∧ (zeroValue t).run P w = .ok v w := by
  unfold tzero at h
  obtain ⟨v, hv, rfl⟩ := Option.map_eq_some_iff.1 h
  obtain ⟨i, hi, hz⟩ := Option.bind_eq_some_iff.1 hv
  exact ⟨i, v, hi, hz, rfl, by simp [zeroValue, typeInfo, hi, hz]⟩
theorem mapM_places : ∀ (fs : List Field), (∀ f ∈ fs, (P.info? f.type).isSome = true) → fs.mapM (fun f => (P.info? f.type).map fun i => (f.offset, i.size)) = some (fs.map fun f => (f.offset, P.cellsOf f.type))
  | [], _ => by simp
  | f :: fs, h => by
    obtain ⟨i, hi⟩ := Option.isSome_iff_exists.1 (h f List.mem_cons_self)
    have ih := mapM_places fs (fun g hg => h g (List.mem_cons_of_mem _ hg))
    have hc : P.cellsOf f.type = i.size := by simp [Program.cellsOf, hi]
    simp [List.mapM_cons, hi, ih, hc]
theorem build_run {t : TypeId} {parts : Array (Nat × Operand)} {ev : Operand → Value} {s : St} {p : PV} (hev : ∀ x, VR w O (ev x) (evo s x)) (h : opVal P s (.build t parts) = some p) :
    ∃ v, (Instr.build t (parts.map fun (i, x) => (i, ev x))).run P w = .ok v w ∧ VR w O v p := by
  simp only [opVal] at h
  have hpr := PR.of_map hev parts.toList
  have fin : ∀ (z : PV) (place : Nat → Option (Nat × Nat)), tzero P t = some z → ((fillP place z.cells (parts.toList.map fun q => (q.1, evo s q.2))).map PV.agg = some p) →
      (∀ cq v i, P.info? t = some i → i.zero = some v → Instr.fill place v.cells (parts.toList.map fun q => (q.1, ev q.2)) = some cq → P.built t (parts.map fun (i, x) => (i, ev x)).toList = some cq) →
      ∃ v, (Instr.build t (parts.map fun (i, x) => (i, ev x))).run P w = .ok v w ∧ VR w O v p := by
    intro z place hz hf hb
    obtain ⟨i, v, hi, hiz, rfl, _⟩ := zero_of (w := w) hz
    obtain ⟨pq, hpq, rfl⟩ := Option.map_eq_some_iff.1 hf
    obtain ⟨cq, hq, hcr⟩ := fill_run _ _ _ _ _ hpr (ofValue_cells w O v) hpq
    exact ⟨_, run_build w t _ cq (hb cq v i hi hiz hq), .agg _ _ hcr.1 hcr.2⟩
  have hmap : (parts.map fun (x : Nat × Operand) => (x.1, ev x.2)).toList = parts.toList.map fun q => (q.1, ev q.2) := by simp
  split at h
  · rename_i fs hu
    split at h
    · cases h
    · rename_i hg
      obtain ⟨z, hz, h⟩ := Option.bind_eq_some_iff.1 h
      refine fin z _ hz h (fun cq v i hi hiz hq => ?_)
      have hgood : ∀ f ∈ fs.toList, (P.info? f.type).isSome = true := by
        have : goodT P t = true := by simpa using hg
        simp only [goodT, hu] at this
        exact fun f hf => List.all_eq_true.1 this f hf
      unfold Program.built
      simp only [hi, hu, hiz, mapM_places fs.toList hgood]
      rw [hmap, ← hq]
      congr 1
      funext k
      rw [List.getElem?_toArray, List.getElem?_map, Array.getElem?_toList]
  · rename_i n e hu
    split at h
    · cases h
    · rename_i hg
      obtain ⟨z, hz, h⟩ := Option.bind_eq_some_iff.1 h
      refine fin z _ hz h (fun cq v i hi hiz hq => ?_)
      have hgood : (P.info? e).isSome = true := by
        have : goodT P t = true := by simpa using hg
        simpa only [goodT, hu] using this
      obtain ⟨ie, hie⟩ := Option.isSome_iff_exists.1 hgood
      have hce : P.cellsOf e = ie.size := by simp [Program.cellsOf, hie]
      unfold Program.built
      simp only [hi, hu, hiz, hie]
      rw [hmap, ← hq, hce]
  · cases h
end
end Go.Proofs.Ythdgdngdfijfhaa
namespace Go.Proofs.Ythdgdngdfijfhaa
open Go.RowKit
set_option linter.unusedVariables false
set_option linter.unusedSimpArgs false
section
variable {P : Program} {w : World} {O : Nat → Prop}
theorem Fr.alloc (w : World) (o : Obj) (O : Nat → Prop) : Fr w O (w.alloc o) :=
  ⟨rfl, rfl, rfl, by simp, fun b hb _ => Below.heap_alloc w o b hb, fun b cs t fr h => ⟨cs, fr, (Below.heap_alloc w o b (lt_of_block h)).trans h, rfl⟩⟩
theorem heap_new (w : World) (o : Obj) : (w.alloc o).heap[w.heap.size]? = some o := by
  show (w.heap.push o)[w.heap.size]? = _
  simp
theorem run_newRow (e : TypeId) (cs : Array Value) : (newRow e cs).run P w = .ok ⟨w.heap.size, 0, none⟩ (w.alloc (.cells cs e)) := by
  unfold newRow
  rw [Sem.run_bind, run_newObj]
  rfl
theorem fillP_range {sz : Nat} : ∀ (L : List (Nat × PV)) (k : Nat) (pc : List PV), L.map (·.1) = List.range' k L.length → (∀ q ∈ L, q.2.isDef = true ∧ q.2.cells.length = sz) →
    pc.length = (k + L.length) * sz → fillP (fun i => some (i * sz, sz)) pc L = some (pc.take (k * sz) ++ flat (L.map (·.2)))
  | [], k, pc, _, _, hl => by
    simp only [fillP, List.length_nil, Nat.add_zero] at hl ⊢
    simp [flat, List.take_of_length_le (Nat.le_of_eq hl)]
  | (i, v) :: L, k, pc, hr, hd, hl => by
    simp only [List.map_cons, List.length_cons, List.range'_succ, List.cons.injEq] at hr
    obtain ⟨rfl, hr⟩ := hr
    have h1 : v.isDef = true := (hd _ List.mem_cons_self).1
    have h2 : v.cells.length = sz := (hd _ List.mem_cons_self).2
    simp only [List.length_cons] at hl
    have hmul : (i + (L.length + 1)) * sz = i * sz + sz + L.length * sz := by
      rw [← Nat.add_assoc, Nat.add_right_comm, Nat.add_mul, Nat.succ_mul]
    have hle : i * sz + v.cells.length ≤ pc.length := by rw [hl, hmul, h2]; omega
    simp only [fillP]
    rw [if_pos ⟨h1, h2, hle⟩]
    rw [fillP_range L (i + 1) _ hr (fun q hq => hd q (List.mem_cons_of_mem _ hq)) (by rw [splice_len _ _ _ hle, hl]; congr 1; omega)]
    congr 1
    rw [List.map_cons, flat_cons, ← List.append_assoc]
    congr 1
    unfold splice
    rw [Nat.succ_mul, List.take_append_of_le_length (by simp; omega), List.take_of_length_le (by simp; omega)]
theorem buildSlice_run {t : TypeId} {len : Nat} {parts : Array (Nat × Operand)} {ev : Operand → Value} {s : St} {p : PV} (hO : ∀ b, O b → b < w.heap.size) (hev : ∀ x, VR w O (ev x) (evo s x))
    (h : opVal P s (.buildSlice t len parts) = some p) :
    ∃ v w', (Instr.buildSlice t len (parts.map fun (i, x) => (i, ev x))).run P w = .ok v w' ∧ Fr w (fun _ => False) w' ∧ VR w' O v p := by
  simp only [opVal] at h
  split at h
  · rename_i e hu
    split at h
    · rename_i hc
      obtain ⟨hr, hall, hbig, hz⟩ := hc
      obtain rfl := Option.some.inj h
      obtain ⟨z, hz⟩ := Option.isSome_iff_exists.1 hz
      obtain ⟨ie, vz, hie, hiz, _, hzr⟩ := zero_of (w := w) hz
      have hsz : P.cellsOf e = ie.size := by simp [Program.cellsOf, hie]
      have hlen : parts.toList.length = len := by simpa using congrArg List.length hr
      have hd : ∀ q ∈ parts.toList.map (fun q => (q.1, evo s q.2)), q.2.isDef = true ∧ q.2.cells.length = P.cellsOf e := by
        intro q hq
        obtain ⟨q', hq', rfl⟩ := List.mem_map.1 hq
        have := List.all_eq_true.1 hall (evo s q'.2) (List.mem_map.2 ⟨q', hq', rfl⟩)
        simpa using this
      have hfill := fillP_range (parts.toList.map fun q => (q.1, evo s q.2)) 0 (List.replicate (len * P.cellsOf e) .undef) (by
        rw [List.map_map, List.length_map, hlen, ← List.range_eq_range', ← hr]
        rfl) hd (by simp [hlen])
      rw [Nat.zero_mul, List.take_zero, List.nil_append, List.map_map] at hfill
      obtain ⟨cq, hq, hcr⟩ := fill_run _ _ ((Array.range (len * P.cellsOf e)).map ((if len * P.cellsOf e = 0 then #[] else vz.cells)[· % (if len * P.cellsOf e = 0 then #[] else vz.cells).size]!)) _ _ (PR.of_map hev parts.toList)
        ⟨by simp, fun i v p hv hp => by
          rw [List.getElem?_replicate] at hp
          split at hp
          · obtain rfl := Option.some.inj hp; exact .undef v
          · cases hp⟩ hfill
      have hmap : (parts.map fun (x : Nat × Operand) => (x.1, ev x.2)).toList = parts.toList.map fun q => (q.1, ev q.2) := by simp
      have hrun : (Instr.buildSlice t len (parts.map fun (i, x) => (i, ev x))).run P w = .ok (.slice (some ⟨w.heap.size, 0, none⟩) len len) (w.alloc (.cells cq e)) := by
        have hbig' : ¬ len * ie.size > 2 ^ 24 := by rw [← hsz]; omega
        rw [hsz] at hq
        unfold Instr.buildSlice
        simp only [Sem.run_bind, run_underlying hu, Result.andThen_ok, sizeOf, typeInfo, run_program, hie, Sem.run_pure, Sem.run_map]
        rw [if_neg hbig']
        by_cases h0 : len * ie.size = 0
        · simp only [h0, if_true] at hq ⊢
          rw [Sem.run_bind, Sem.run_pure]
          simp only [Result.andThen_ok]
          rw [hmap, hq]
          simp [run_newRow]
        · simp only [h0, if_false, Sem.run_bind, hzr, Sem.run_pure, Result.andThen_ok] at hq ⊢
          rw [hmap, hq]
          simp [run_newRow]
      refine ⟨_, _, hrun, Fr.alloc w _ _, ?_⟩
      have hfl : (fun q : Nat × PV => q.2) ∘ (fun q : Nat × Operand => (q.1, evo s q.2)) = fun q => evo s q.2 := rfl
      rw [hfl] at hcr
      have hlv : (parts.toList.map fun q => evo s q.2).length = len := by simp [hlen]
      have hv := VR.list (w := w.alloc (.cells cq e)) (O := O) .full (parts.toList.map fun q => evo s q.2) (some ⟨w.heap.size, 0, none⟩) (parts.toList.map fun q => evo s q.2).length (P.cellsOf e) cq.toList
        (Nat.le_refl _) (fun e => by cases e) ⟨fun _ => rfl, nofun, nofun⟩ (by rw [Array.length_toList, hcr.1])
        (fun x hx => by
          obtain ⟨q, hq, rfl⟩ := List.mem_map.1 hx
          exact (hd (q.1, evo s q.2) (List.mem_map.2 ⟨q, hq, rfl⟩)).2)
        (fun _ => ⟨w.heap.size, 0, rfl, by simp, fun hb => absurd (hO _ hb) (Nat.lt_irrefl _), fun j v hv => by
          rw [Nat.zero_add, cell_at (heap_new w _)]
          rw [Array.getElem?_toList] at hv; exact hv⟩)
        (fun i v p hv hp => by
          rw [Array.getElem?_toList] at hv
          exact (hcr.2 i v p hv hp).keep (Fr.alloc w _ _))
      rw [hlv] at hv
      exact hv
    · cases h
  · cases h
theorem grownCap_ge (w : World) (need old : Nat) (e : TypeId) : need ≤ grownCap w need old e := by
  show need ≤ need + _ % _
  exact Nat.le_add_right _ _
theorem flat_cells : ∀ (xs : List PV), (∀ x ∈ xs, x.cells = [x]) → flat xs = xs
  | [], _ => rfl
  | x :: xs, h => by rw [flat_cons, h x (List.mem_cons_self ..), flat_cells xs fun y hy => h y (List.mem_cons_of_mem _ hy)]; rfl
theorem pvConvB_run {src dst : TypeId} {va : Value} {pa p : PV} (hO : ∀ b, O b → b < w.heap.size) (ha : VR w O va pa) (h : pvConvB P src dst pa = some p) :
    ∃ v w', (convert src dst va).run P w = .ok v w' ∧ Fr w (fun _ => False) w' ∧ VR w' O v p := by
  unfold pvConvB at h
  split at h
  · rename_i l
    rw [ha.str_inv]
    split at h
    · rename_i d e h1 h2
      split at h
      · rename_i h3
        obtain rfl := Option.some.inj h
        have hrun := Lib.run_convert_string_bytes w src dst e ⟨l.toArray⟩ h1 h2 h3
        refine ⟨_, _, hrun, ⟨rfl, rfl, rfl, by rw [Lib.bytesWorld_size]; omega, fun b hb _ => Lib.bytesWorld_at_old w e _ b hb, fun b cs t fr hb => ⟨cs, fr, (Lib.bytesWorld_at_old w e _ b (lt_of_block hb)).trans hb, rfl⟩⟩, ?_⟩
        have hfl : flat (l.map fun b => PV.int .u8 (b.toNat : Int)) = l.map fun b => PV.int .u8 (b.toNat : Int) := flat_cells _ fun x hx => by
          obtain ⟨b, _, rfl⟩ := List.mem_map.1 hx; rfl
        have hv := VR.list (w := Lib.bytesWorld w e ⟨l.toArray⟩) (O := O) .any (l.map fun b => PV.int .u8 (b.toNat : Int)) (some ⟨w.heap.size, 0, none⟩) (grownCap w l.length 0 e) 1 (l.map fun b => Value.int .u8 (b.toNat : Int))
          (by rw [List.length_map]; exact grownCap_ge _ _ _ _) (fun e => by cases e) ⟨nofun, nofun, nofun⟩ (by rw [hfl]; simp)
          (fun x hx => by obtain ⟨b, _, rfl⟩ := List.mem_map.1 hx; rfl)
          (fun _ => ⟨w.heap.size, 0, rfl, by rw [Lib.bytesWorld_size]; omega, fun hb => absurd (hO _ hb) (Nat.lt_irrefl _), fun j v hv => by
            have hj : j < l.length := by simpa using (List.getElem?_eq_some_iff.1 hv).1
            rw [Nat.zero_add, Lib.bytesWorld_cell w e ⟨l.toArray⟩ j (by show j < l.toArray.size; simpa using hj)]
            rw [List.getElem?_map, List.getElem?_eq_getElem hj] at hv
            simpa [List.getD, hj] using hv⟩)
          (fun i v p hv hp => by
            rw [hfl, List.getElem?_map] at hp
            rw [List.getElem?_map] at hv
            cases e : l[i]? with
            | none => rw [e] at hv; cases hv
            | some b =>
              rw [e] at hv hp
              obtain rfl := Option.some.inj hv
              obtain rfl := Option.some.inj hp
              exact .int _ _)
        rw [List.length_map] at hv
        exact hv
      · cases h
    · cases h
  · cases h
theorem VRs.of_map {ev : Operand → Value} {s : St} (hev : ∀ x, VR w O (ev x) (evo s x)) (l : Array Operand) : VRs w O (l.map ev) (l.toList.map (evo s)) := by
  refine ⟨by simp, fun i v p hv hp => ?_⟩
  rw [Array.getElem?_map] at hv
  rw [List.getElem?_map, Array.getElem?_toList] at hp
  cases e : l[i]? with
  | none => simp [e] at hv
  | some x =>
    rw [e] at hv hp
    obtain rfl : ev x = v := by simpa using hv
    obtain rfl : evo s x = p := by simpa using hp
    exact hev x
theorem loadCs_part {t : TypeId} {vs : Array Value} {ps : List PV} {off : Nat} {q : PV} (h : CR w O vs ps) (hl : loadCs P t ps off = some q) : ∃ v, (part t vs off).run P w = .ok v w ∧ VR w O v q := by
  unfold loadCs at hl
  have row : ∀ d, P.underlying t = some d → d.isRow = true → (if off + P.cellsOf t ≤ ps.length then some (PV.agg ((ps.drop off).take (P.cellsOf t))) else none) = some q →
      ∃ v, (part t vs off).run P w = .ok v w ∧ VR w O v q := by
    intro d hu hd hl
    split at hl
    · rename_i hle
      obtain rfl := Option.some.inj hl
      have hc := cr_drop h off (P.cellsOf t) (by omega)
      exact ⟨_, part_row hu hd, .agg _ _ hc.1 hc.2⟩
    · cases hl
  split at hl
  · rename_i fs hu; exact row _ hu rfl hl
  · rename_i n e hu; exact row _ hu rfl hl
  · rename_i d h1 h2 hu
    have hd : d.isRow = false := by
      cases d <;> first | rfl | exact absurd rfl (h1 _) | exact absurd rfl (h2 _ _)
    have hlt : off < ps.length := (List.getElem?_eq_some_iff.1 hl).1
    have hlt' : off < vs.size := by have := h.1; omega
    exact ⟨_, part_one hu hd (Array.getElem?_eq_getElem hlt'), h.2 _ _ _ (Array.getElem?_eq_getElem hlt') hl⟩
  · cases hl
theorem opVal_run {X : Nat → Prop} {s : St} {a : Act} {o : Oper} {p : PV} (hX : ∀ b, X b → b < w.heap.size) (hH : HR w X s.H) (hev : ∀ x, VR w (both X s.H) (a.eval x) (evo s x))
    (h : opVal P s o.op = some p) : ∃ v w', (execOp a.eval o).run P w = .ok (.value v) w' ∧ Fr w (fun _ => False) w' ∧ VR w' (both X s.H) v p := by
  have hO : ∀ b, both X s.H b → b < w.heap.size := fun b hb => hb.elim (hX b) (own_lt hH)
  have wrap : ∀ (m : Sem Value), (∃ v, m.run P w = .ok v w ∧ VR w (both X s.H) v p) → (execOp a.eval o = (do pure (.value (← m)))) →
      ∃ v w', (execOp a.eval o).run P w = .ok (.value v) w' ∧ Fr w (fun _ => False) w' ∧ VR w' (both X s.H) v p := by
    rintro m ⟨v, hv, hr⟩ e
    exact ⟨v, w, by rw [e]; simp [hv], Fr.refl _ _, hr⟩
  obtain ⟨dst, op, ty, pos, after, guard⟩ := o
  cases op <;> simp only at h <;> try (simp only [opVal, reduceCtorEq] at h; done)
  case move x => simp only [opVal, Option.some.injEq] at h; subst h; exact ⟨_, w, rfl, Fr.refl _ _, hev x⟩
  case assign x => simp only [opVal, Option.some.injEq] at h; subst h; exact ⟨_, w, rfl, Fr.refl _ _, hev x⟩
  case pick c x y =>
    simp only [opVal] at h
    split at h
    · rename_i t ht
      obtain rfl := Option.some.inj h
      have hc := hev c
      rw [ht] at hc
      refine ⟨_, w, by simp [execOp, hc.bool_inv, asBool]; rfl, Fr.refl _ _, ?_⟩
      cases t
      · exact hev y
      · exact hev x
    · cases h
  case binOp op t x y yt => exact wrap _ (pvBin_run (yt := yt) (x := x) (y := y) (hev x) (hev y) h) rfl
  case unOp op t x => exact wrap _ (pvUn_run (hev x) h) rfl
  case convert t u x =>
    simp only [opVal] at h
    split at h
    · rename_i q hq
      obtain rfl := Option.some.inj h
      exact wrap _ (pvConv_run (hev x) hq) rfl
    · obtain ⟨v, w', hr, hf, hv⟩ := pvConvB_run hO (hev x) h
      exact ⟨v, w', by simp only [execOp, Sem.run_bind, hr, Result.andThen_ok, Sem.run_pure], hf, hv⟩
  case nilCheck x =>
    simp only [opVal] at h
    have hv := hev x
    split at h
    · rename_i l sz i off hx
      obtain rfl := Option.some.inj h
      rw [hx] at hv
      refine ⟨a.eval x, w, ?_, Fr.refl _ _, hv⟩
      cases hv' : a.eval x <;> rw [hv'] at hv <;> cases hv
      simp [execOp, hv']
    · rename_i cs hx
      obtain rfl := Option.some.inj h
      rw [hx] at hv
      refine ⟨a.eval x, w, ?_, Fr.refl _ _, hv⟩
      cases hv' : a.eval x <;> rw [hv'] at hv <;> cases hv
      simp [execOp, hv']
    · cases h
  case extract x i =>
    simp only [opVal] at h
    split at h
    · rename_i ps hx
      have hv := hev x
      rw [hx] at hv
      obtain ⟨vs, hv, hl, hel⟩ := hv.tup_inv
      have hi : i < ps.length := (List.getElem?_eq_some_iff.1 h).1
      refine wrap (Instr.extract (a.eval x) i) ⟨vs[i]'(by omega), ?_, ?_⟩ rfl
      · rw [hv]; simp [Instr.extract, Array.getElem?_eq_getElem (show i < vs.size by omega)]
      · exact hel i _ _ (Array.getElem?_eq_getElem (by omega)) h
    · cases h
  case field t x f =>
    simp only [opVal] at h
    split at h
    · rename_i cs hx
      have hv := hev x
      rw [hx] at hv
      obtain ⟨vs, hv, hcr⟩ := hv.agg_inv
      split at h
      · rename_i fs hu
        obtain ⟨fd, hfd, h⟩ := Option.bind_eq_some_iff.1 h
        obtain ⟨u, hu', hur⟩ := loadCs_part (w := w) hcr h
        refine wrap (Instr.field t (a.eval x) f) ⟨u, ?_, hur⟩ rfl
        rw [hv]; simp [Instr.field, run_underlying hu, hfd, asAgg, hu']
      · cases h
    · cases h
  case makeFunc fn fst caps =>
    cases fn <;> simp only [opVal, reduceCtorEq] at h
    split at h
    · rename_i f hf
      obtain rfl := Option.some.inj h
      have hr := VRs.of_map hev caps
      have hfst : fst = #[] := Array.eq_empty_of_size_eq_zero hf
      refine wrap (Instr.makeFunc (.func f) (fst.map a.eval) (caps.map a.eval)) ⟨_, rfl, ?_⟩ rfl
      subst hfst
      rw [show (#[] : Array Operand).map a.eval = #[] from by simp]
      exact .fn f _ _ hr.1 hr.2
    · split at h
      · rename_i f hf hc
        obtain rfl := Option.some.inj h
        have hr := VRs.of_map hev fst
        have hcap : caps = #[] := Array.eq_empty_of_size_eq_zero hc
        refine wrap (Instr.makeFunc (.func f) (fst.map a.eval) (caps.map a.eval)) ⟨_, rfl, ?_⟩ rfl
        subst hcap
        rw [show (#[] : Array Operand).map a.eval = #[] from by simp]
        exact .bfn f _ _ hr.1 hr.2
      · cases h
  case fieldAddr t x f =>
    simp only [opVal] at h
    split at h
    · rename_i fs hu
      obtain ⟨fd, hfd, h⟩ := Option.bind_eq_some_iff.1 h
      split at h
      · cases h
      · rename_i hz
        split at h
        · rename_i l sz i off hx
          obtain rfl := Option.some.inj h
          have hv := hev x
          rw [hx] at hv
          refine wrap (Instr.fieldAt t (a.eval x) f) ?_ rfl
          generalize a.eval x = vx at hv
          cases hv with
          | ref b sz i off =>
            refine ⟨_, fieldAt_run hu hfd hz, ?_⟩
            rw [Nat.add_assoc]
            exact .ref b sz i (off + fd.offset)
        · rename_i cs hx
          split at h
          · rename_i hle
            obtain rfl := Option.some.inj h
            have hv := hev x
            rw [hx] at hv
            obtain ⟨b, o, e, hr⟩ := cptr_drop hv fd.offset hle
            exact wrap (Instr.fieldAt t (a.eval x) f) ⟨_, by rw [e]; exact fieldAt_run hu hfd hz, hr⟩ rfl
          · cases h
        · cases h
    · cases h
  case indexAddr t x ix =>
    simp only [opVal] at h
    split at h
    · rename_i k n hix
      have hvi := hev ix
      rw [hix] at hvi
      have hvx := hev x
      refine wrap (Instr.indexAt t (a.eval x) (a.eval ix)) ?_ rfl
      rw [hvi.int_inv]
      split at h
      · rename_i e kd xs hu hx
        rw [hx] at hvx
        split at h
        · rename_i hc
          obtain ⟨y, hy, h⟩ := Option.bind_eq_some_iff.1 h
          split at h
          · rename_i hc2
            obtain rfl := Option.some.inj h
            exact index_list hvx hu hc.1 hc.2 hy hc2.1 hc2.2
          · cases h
        · cases h
      · rename_i e l sz lo len hu hx
        rw [hx] at hvx
        split at h
        · rename_i hc
          obtain rfl := Option.some.inj h
          exact index_arr hvx hu hc.1 hc.2.1 hc.2.2.1 hc.2.2.2
        · cases h
      · rename_i len e l sz i off hu hx
        rw [hx] at hvx
        split at h
        · rename_i hc
          obtain rfl := Option.some.inj h
          generalize a.eval x = vx at hvx
          cases hvx with
          | ref b sz i off =>
            refine ⟨_, indexAt_array hu hc.1 hc.2.1 hc.2.2, ?_⟩
            rw [Nat.add_assoc]
            exact .ref b sz i _
        · cases h
      · rename_i len e cs hu hx
        rw [hx] at hvx
        split at h
        · rename_i hc
          obtain rfl := Option.some.inj h
          obtain ⟨b, o, e', hr⟩ := cptr_drop hvx _ hc.2.2.1
          exact ⟨_, by rw [e']; exact indexAt_array hu hc.1 hc.2.1 hc.2.2.2, hr⟩
        · cases h
      · cases h
    · cases h
  case load t x =>
    simp only [opVal] at h
    have hvx := hev x
    refine wrap (Instr.loadAt t (a.eval x)) ?_ rfl
    split at h
    · rename_i l sz i off hx
      rw [hx] at hvx
      obtain ⟨xs, hxs, h⟩ := Option.bind_eq_some_iff.1 h
      obtain ⟨y, hy, h⟩ := Option.bind_eq_some_iff.1 h
      exact loadAt_ref hH hvx hxs hy h
    · rename_i cs hx
      rw [hx] at hvx
      exact loadAt_cptr hvx h
    · cases h
  case index t x ix =>
    simp only [opVal] at h
    have hvx := hev x
    have hvi := hev ix
    refine wrap (Instr.index t (a.eval x) (a.eval ix)) ?_ rfl
    split at h
    · rename_i l k n hx hi
      rw [hx] at hvx
      rw [hi] at hvi
      rw [hvx.str_inv, hvi.int_inv]
      split at h
      · rename_i hu
        split at h
        · rename_i h0
          obtain ⟨b, hb, rfl⟩ := Option.map_eq_some_iff.1 h
          have hlt : n.toNat < l.length := (List.getElem?_eq_some_iff.1 hb).1
          have hg : (⟨l.toArray⟩ : ByteArray)[n.toNat]? = some b := by
            have : (⟨l.toArray⟩ : ByteArray)[n.toNat]? = l.toArray[n.toNat]? := by
              rw [getElem?_pos (c := (⟨l.toArray⟩ : ByteArray)) (i := n.toNat) (by show n.toNat < l.toArray.size; simpa using hlt), getElem?_pos (c := l.toArray) (i := n.toNat) (by simpa using hlt)]
              rfl
            rw [this, List.getElem?_toArray, hb]
          exact ⟨_, by simp [Instr.index, asIntOf, run_underlying hu, h0, hg], .int _ _⟩
        · cases h
      · cases h
    · rename_i cs k n hx hi
      rw [hx] at hvx
      rw [hi] at hvi
      obtain ⟨vs, hv, hcr⟩ := hvx.agg_inv
      rw [hv, hvi.int_inv]
      split at h
      · rename_i len e hu
        split at h
        · rename_i hc
          obtain ⟨u, hu', hur⟩ := loadCs_part (w := w) hcr h
          obtain ⟨ie, hie, hs⟩ : ∃ ie, P.info? e = some ie ∧ ie.size = P.cellsOf e := by
            unfold loadCs at h
            split at h <;> first | (rename_i hh; exact info_of_under hh) | (rename_i hh _; exact info_of_under hh) | skip
            all_goals first | (rename_i d h1 h2 hh; exact info_of_under hh) | cases h
          exact ⟨u, by simp [Instr.index, asIntOf, run_underlying hu, hc.1, hc.2, sizeOf, typeInfo, hie, hs, hu'], hur⟩
        · cases h
      · cases h
    · cases h
  case build t parts => exact wrap _ (build_run hev h) rfl
  case buildSlice t len parts =>
    obtain ⟨v, w', hr, hf, hv⟩ := buildSlice_run hO hev h
    exact ⟨v, w', by simp only [execOp, Sem.run_bind, hr, Result.andThen_ok, Sem.run_pure], hf, hv⟩
  case slice t x lo hi mx => exact wrap _ (pvSlice_run hev (hev x) hH h) rfl
  case makeInterface t x =>
    simp only [opVal] at h
    split at h
    · rename_i hc
      obtain rfl := Option.some.inj h
      exact wrap _ ⟨_, run_makeInterface w t _ hc, .iface _ _ _ (hev x)⟩ rfl
    · cases h
  case call c =>
    obtain ⟨callee, args, ts⟩ := c
    have hargs := VRs.of_map hev args
    cases callee with
    | value g => simp only [opVal, reduceCtorEq] at h
    | invoke r m => simp only [opVal, reduceCtorEq] at h
    | builtin b =>
      have bi : ∀ (m : Sem Value), (∃ v, m.run P w = .ok v w ∧ VR w (both X s.H) v p) → (∀ cs, builtin b ts ty cs (args.map a.eval) = (do pure (.value (← m)))) →
          ∃ v w', (execOp a.eval ⟨dst, .call ⟨.builtin b, args, ts⟩, ty, pos, after, guard⟩).run P w = .ok (.value v) w' ∧ Fr w (fun _ => False) w' ∧ VR w' (both X s.H) v p := by
        rintro m ⟨v, hv, hr⟩ e
        refine ⟨v, w, ?_, Fr.refl _ _, hr⟩
        simp only [execOp, resolve, pure_bind, invoke]
        rw [e]
        simp [hv]
      cases b <;> simp only [opVal, reduceCtorEq] at h
      case len =>
        refine bi (Builtin.len_ ts ty (args.map a.eval)) ?_ (fun _ => rfl)
        split at h
        · rename_i t x ht hx
          have hax : (args.map a.eval)[0]? = some (a.eval x) := by rw [Array.getElem?_map, hx]; rfl
          have hv := hev x
          split at h
          · rename_i l hu he
            obtain rfl := Option.some.inj h
            rw [he] at hv
            refine ⟨_, ?_, .int _ _⟩
            have hs : (⟨l.toArray⟩ : ByteArray).size = l.length := by simp [ByteArray.size]
            simp [Builtin.len_, ht, hax, hv.str_inv, run_underlying hu, goInt, hs]
          · rename_i e k xs hu he
            obtain rfl := Option.some.inj h
            rw [he] at hv
            generalize hva : a.eval x = va at hv hax
            cases hv with
            | list k' xs ad cap sz cs g1 g2 g3 g4 g5 g6 g7 =>
              exact ⟨_, by simp [Builtin.len_, ht, hax, run_underlying hu, goInt], .int _ _⟩
          · rename_i e l sz lo len hu he
            obtain rfl := Option.some.inj h
            rw [he] at hv
            generalize hva : a.eval x = va at hv hax
            cases hv with
            | arr0 l sz lo a' => exact ⟨_, by simp [Builtin.len_, ht, hax, run_underlying hu, goInt], .int _ _⟩
            | arr b sz lo len cap cs ty' fr h1 h2 h3 => exact ⟨_, by simp [Builtin.len_, ht, hax, run_underlying hu, goInt], .int _ _⟩
          · cases h
        · cases h
      case max => exact bi (Builtin.max_ ts ty (args.map a.eval)) (by simpa using pvMinMax_run (mx := true) hargs.1 hargs.2 h ts ty) (fun _ => rfl)
      case min => exact bi (Builtin.min_ ts ty (args.map a.eval)) (by simpa using pvMinMax_run (mx := false) hargs.1 hargs.2 h ts ty) (fun _ => rfl)
end
end Go.Proofs.Ythdgdngdfijfhaa
namespace Go.Proofs.Ythdgdngdfijfhaa
open Go.RowKit
set_option linter.unusedVariables false
set_option linter.unusedSimpArgs false
section
variable {P : Program} {w : World} {X : Nat → Prop} {H : Hp}
theorem fresh_none (hH : HR w X H) : H (.real w.heap.size) = none := by
  cases h : H (.real w.heap.size) with
  | none => rfl
  | some c =>
    obtain ⟨m, sz, xs⟩ := c
    obtain ⟨_, _, cs, t, hb, _⟩ := hH _ _ _ _ h
    exact absurd (lt_of_block hb) (Nat.lt_irrefl _)
theorem both_old {c : Option Chunk} {n b : Nat} (h : both X (upd H (.real n) c) b) (hb : b ≠ n) : both X H b := by
  rcases h with h | ⟨sz, xs, h⟩
  · exact .inl h
  · rw [upd_ne _ _ (by intro e; cases e; exact hb rfl)] at h
    exact .inr ⟨sz, xs, h⟩
theorem HR.alloc (hH : HR w X H) (hX : ∀ b, X b → b < w.heap.size) {xs : List PV} {sz : Nat} {cs : Array Value} (t : TypeId) (m : Bool) (hsz : ∀ x ∈ xs, x.cells.length = sz) (hle : (flat xs).length ≤ cs.size)
    (hel : ∀ (i : Nat) v p, cs[i]? = some v → (flat xs)[i]? = some p → VR w (both X H) v p) :
    HR (w.alloc (.cells cs t)) X (upd H (.real w.heap.size) (some (.row m sz xs))) := by
  have mono : ∀ {v p}, VR w (both X H) v p → VR (w.alloc (.cells cs t)) (both X (upd H (.real w.heap.size) (some (.row m sz xs)))) v p := fun h =>
    h.mono (fun b hb _ => Below.heap_alloc w _ b hb) (fun b hb h => both_old h (by omega)) (fun b cs' t' fr e => ⟨cs', fr, (Below.heap_alloc w _ b (lt_of_block e)).trans e, rfl⟩)
  intro l m' sz' xs' hl
  by_cases e : l = .real w.heap.size
  · subst e
    rw [upd_same] at hl
    obtain ⟨rfl, rfl, rfl⟩ : m = m' ∧ sz = sz' ∧ xs = xs' := by simpa using hl
    exact ⟨hsz, fun h => absurd (hX _ h) (Nat.lt_irrefl _), cs, t, heap_new w _, hle, fun i v p hv hp => mono (hel i v p hv hp)⟩
  · rw [upd_ne _ _ e] at hl
    obtain ⟨h1, h2⟩ := hH l m' sz' xs' hl
    refine ⟨h1, ?_⟩
    cases l with
    | real b =>
      obtain ⟨h3, cs', t', hb, h4, h5⟩ := h2
      exact ⟨h3, cs', t', (Below.heap_alloc w _ b (lt_of_block hb)).trans hb, h4, fun i v p hv hp => mono (h5 i v p hv hp)⟩
    | ghost g => exact h2
theorem SR.alloc {γ : GP} {n : Nat} {w0 : World} {O0 : Nat → Prop} {s : St} {a : Act} (h : SR P γ n w0 O0 X s a w) {xs : List PV} {sz : Nat} {cs : Array Value} (t : TypeId) (hsz : ∀ x ∈ xs, x.cells.length = sz) (hle : (flat xs).length ≤ cs.size)
    (hel : ∀ (i : Nat) v p, cs[i]? = some v → (flat xs)[i]? = some p → VR w (both X s.H) v p) :
    SR P γ n w0 O0 X { s with H := upd s.H (.real w.heap.size) (some (.row true sz xs)) } a (w.alloc (.cells cs t)) := by
  refine ⟨h.size, h.defers, fun i => ?_, h.heap.alloc h.lt t true hsz hle hel, h.fr.trans (Fr.alloc w _ (fun _ => False)) (fun _ _ e => e.elim), fun b hb => ?_, fun b hb => Nat.lt_of_lt_of_le (h.lt b hb) (by simp), h.gs.real _ _⟩
  · exact (h.env i).mono (fun b hb _ => Below.heap_alloc w _ b hb) (fun b hb h => both_old h (by omega)) (fun b cs' t' fr e => ⟨cs', fr, (Below.heap_alloc w _ b (lt_of_block e)).trans e, rfl⟩)
  · obtain ⟨sz', xs', e⟩ := hb
    by_cases hbn : b = w.heap.size
    · exact .inr (by rw [hbn]; exact h.fr.size)
    · have e : upd s.H (.real w.heap.size) (some (.row true sz xs)) (.real b) = some (.row true sz' xs') := e
      rw [upd_ne _ _ (by intro e; cases e; exact hbn rfl)] at e
      exact h.new b ⟨sz', xs', e⟩
theorem flat_one (p : PV) : flat [p] = p.cells := by simp [flat]
theorem flat_rep (p : PV) : ∀ n, flat (List.replicate n p) = (List.replicate n p.cells).flatten
  | 0 => by simp [flat]
  | n + 1 => by rw [List.replicate_succ, flat_cons, flat_rep p n, List.replicate_succ, List.flatten_cons]
theorem rep_get {α : Type} (l : List α) : ∀ (n i : Nat), i < n * l.length → (List.replicate n l).flatten[i]? = l[i % l.length]?
  | 0, i, h => by omega
  | n + 1, i, h => by
    rw [List.replicate_succ, List.flatten_cons]
    rcases Nat.lt_or_ge i l.length with h1 | h1
    · rw [List.getElem?_append_left h1, Nat.mod_eq_of_lt h1]
    · rw [List.getElem?_append_right h1, rep_get l n (i - l.length) (by rw [Nat.succ_mul] at h; omega), Nat.mod_eq_sub_mod h1]
theorem newVar_run (t : TypeId) (v : Value) : (newVar t v).run P w = .ok ⟨w.heap.size, 0, none⟩ (w.alloc (.cells v.cells t)) := run_newRow t v.cells
def Did (P : Program) (γ : GP) (n : Nat) (w0 : World) (O0 X : Nat → Prop) (s : St) (a : Act) (w : World) (o : Oper) (K : PV → Hp → Prop) : Prop :=
  ∃ v w' p H', ((execOp a.eval o).run P w = .ok (.value v) w' ∨ ((execOp a.eval o).run P w = .ok .skip w' ∧ v = undef)) ∧ K p H' ∧
    SR P γ n w0 O0 X { s with H := H' } a w' ∧ VR w' (both X H') v p
theorem SR.retag {γ : GP} {n : Nat} {w0 : World} {O0 : Nat → Prop} {s : St} {a : Act} (h : SR P γ n w0 O0 X s a w) {b sz : Nat} {xs xs' : List PV} (hb : s.H (.real b) = some (.row true sz xs)) (hsz : ∀ x ∈ xs', x.cells.length = sz) (hlen : (flat xs').length = (flat xs).length)
    (hel : ∀ cs t, w.heap[b]? = some (.cells cs t (0, 0)) → ∀ (i : Nat) v p, cs[i]? = some v → (flat xs')[i]? = some p → VR w (both X s.H) v p) :
    SR P γ n w0 O0 X { s with H := upd s.H (.real b) (some (.row true sz xs')) } a w := by
  have hown : ∀ x, own (upd s.H (.real b) (some (.row true sz xs'))) x → own s.H x := by
    rintro x ⟨sz', ys, e⟩
    by_cases hx : x = b
    · subst hx; exact ⟨sz, xs, hb⟩
    · rw [upd_ne _ _ (by intro e; cases e; exact hx rfl)] at e
      exact ⟨sz', ys, e⟩
  have mono : ∀ {v p}, VR w (both X s.H) v p → VR w (both X (upd s.H (.real b) (some (.row true sz xs')))) v p := fun hv => hv.less (fun x _ hx => hx.imp id (hown x))
  refine ⟨h.size, h.defers, fun i => mono (h.env i), ?_, h.fr, fun x hx => h.new x (hown x hx), h.lt, h.gs.real _ _⟩
  intro l m sz' ys hl
  have hl : upd s.H (.real b) (some (.row true sz xs')) l = some (.row m sz' ys) := hl
  by_cases e : l = .real b
  · subst e
    rw [upd_same] at hl
    obtain ⟨rfl, rfl, rfl⟩ : true = m ∧ sz = sz' ∧ xs' = ys := by simpa using hl
    obtain ⟨_, hX, cs, t, hc, hle, _⟩ := h.heap _ _ _ _ hb
    exact ⟨hsz, hX, cs, t, hc, by omega, fun i v p hv hp => mono (hel cs t hc i v p hv hp)⟩
  · rw [upd_ne _ _ e] at hl
    obtain ⟨g1, g2⟩ := h.heap _ _ _ _ hl
    refine ⟨g1, ?_⟩
    cases l with
    | real c =>
      obtain ⟨g3, cs, t, g4, g5, g6⟩ := g2
      exact ⟨g3, cs, t, g4, g5, fun i v p hv hp => mono (g6 i v p hv hp)⟩
    | ghost g => exact g2
theorem did_alloc {γ : GP} {n : Nat} {w0 : World} {O0 : Nat → Prop} {s : St} {a : Act} {o : Oper} {K : PV → Hp → Prop} (h : SR P γ n w0 O0 X s a w) {t : TypeId} (ho : o.op = .alloc t) {full : Bool} (hk : opEff P full s o.op K) : Did P γ n w0 O0 X s a w o K := by
  rw [ho] at hk
  obtain ⟨z, hz, hd, hk⟩ := hk
  obtain ⟨i, v, hi, hiz, rfl, hr⟩ := zero_of (w := w) hz
  have hc := ofValue_cells w (both X s.H) v
  have hrun : (execOp a.eval o).run P w = .ok (.value (.pointer (some ⟨w.heap.size, 0, none⟩))) (w.alloc (.cells v.cells t)) := by
    unfold execOp
    rw [ho]
    simp only [Instr.alloc, Sem.run_bind, hr, Result.andThen_ok, newVar_run, Sem.run_pure, Nat.zero_mul, Nat.add_zero]
  have hS := h.alloc t (xs := [ofValue v]) (sz := (ofValue v).cells.length) (cs := v.cells) (fun x hx => by simp at hx; rw [hx]) (by rw [flat_one]; exact Nat.le_of_eq hc.1.symm) (fun i v p hv hp => hc.2 i v p hv (by rwa [flat_one] at hp))
  have hq : VR (w.alloc (.cells v.cells t)) (both X (upd s.H (.real w.heap.size) (some (.row true (ofValue v).cells.length [ofValue v])))) (.pointer (some ⟨w.heap.size, 0, none⟩)) (.ref (.real w.heap.size) (ofValue v).cells.length 0 0) := by
    have := VR.ref (w := w.alloc (.cells v.cells t)) (O := both X (upd s.H (.real w.heap.size) (some (.row true (ofValue v).cells.length [ofValue v])))) w.heap.size (ofValue v).cells.length 0 0
    rwa [Nat.zero_mul, Nat.add_zero] at this
  rcases hk (.real w.heap.size) rfl (fresh_none h.heap) with hk | hk
  · exact ⟨_, _, _, _, .inl hrun, hk, hS, hq⟩
  · generalize hz' : ofValue v = z at hk hS hq hc
    by_cases ht : ∃ r, z = .agg (.nilp :: r)
    · obtain ⟨r, rfl⟩ := ht
      have hnew := heap_new w (.cells v.cells t)
      have h2 := hS.retag (b := w.heap.size) (sz := (PV.agg (.nilp :: r)).cells.length) (xs := [.agg (.nilp :: r)]) (xs' := [ztag t (.real w.heap.size) (.agg (.nilp :: r))]) (by simp only [upd_same]) (fun x hx => by simp at hx; rw [hx]; rfl) (by simp [flat, ztag, PV.cells]) (fun cs t' hcs i u p hu hp => by
        rw [hnew] at hcs
        obtain ⟨rfl, rfl⟩ : v.cells = cs ∧ t = t' := by simpa using hcs
        have hsz : v.cells.size = r.length + 1 := by have := hc.1; simpa [PV.cells] using this
        match i with
        | 0 =>
          obtain rfl : p = .tagp false w.heap.size t (r.length + 1) := by simpa [flat, ztag, PV.cells] using hp.symm
          have hv := hc.2 0 u .nilp hu (by simp [PV.cells])
          cases hv
          exact .tagp false _ _ _ v.cells (0, 0) hnew hsz
        | i + 1 =>
          obtain ⟨_, _, cs0, t0, e0, _, hel⟩ := hS.heap (.real w.heap.size) true (PV.agg (.nilp :: r)).cells.length [.agg (.nilp :: r)] (by simp only [upd_same])
          rw [hnew] at e0
          obtain ⟨rfl, rfl⟩ : v.cells = cs0 ∧ t = t0 := by simpa using e0
          exact hel (i + 1) u p hu (by simpa [flat, ztag, PV.cells] using hp))
      refine ⟨_, _, _, _, .inl hrun, hk, ?_, ?_⟩
      · have e : upd (upd s.H (.real w.heap.size) (some (.row true (PV.agg (.nilp :: r)).cells.length [.agg (.nilp :: r)]))) (.real w.heap.size) (some (.row true (PV.agg (.nilp :: r)).cells.length [ztag t (.real w.heap.size) (.agg (.nilp :: r))])) = upd s.H (.real w.heap.size) (some (.row true (PV.agg (.nilp :: r)).cells.length [ztag t (.real w.heap.size) (.agg (.nilp :: r))])) := by
          funext x; unfold upd; split <;> rfl
        have h3 := h2
        simp only [e] at h3
        exact h3
      · have := VR.ref (w := w.alloc (.cells v.cells t)) (O := both X (upd s.H (.real w.heap.size) (some (.row true (PV.agg (.nilp :: r)).cells.length [ztag t (.real w.heap.size) (.agg (.nilp :: r))])))) w.heap.size (PV.agg (.nilp :: r)).cells.length 0 0
        rwa [Nat.zero_mul, Nat.add_zero] at this
    · have e : ztag t (.real w.heap.size) z = z := by
        unfold ztag
        split
        · exact absurd ⟨_, rfl⟩ ht
        · rfl
      rw [e] at hk
      exact ⟨_, _, _, _, .inl hrun, hk, hS, hq⟩
theorem did_make {γ : GP} {n : Nat} {w0 : World} {O0 : Nat → Prop} {s : St} {a : Act} {o : Oper} {K : PV → Hp → Prop} (h : SR P γ n w0 O0 X s a w) {t : TypeId} {x y : Operand} (ho : o.op = .makeSlice t x y) {full : Bool} (hk : opEff P full s o.op K) : Did P γ n w0 O0 X s a w o K := by
  rw [ho] at hk
  obtain ⟨e, k, k', m, z, hu, hx, hy, hz, hd, hzl, h0, hbytes, h63, hk⟩ := hk
  obtain ⟨ie, v, hie, hiz, rfl, hr⟩ := zero_of (w := w) hz
  have hc := ofValue_cells w (both X s.H) v
  have hsz : ie.size = P.cellsOf e := by simp [Program.cellsOf, hie]
  have hby : ie.bytes = P.bytesOf e := by simp [Program.bytesOf, hie]
  have hb' : (ie.bytes : Int) * m ≤ 281474976710656 := by
    have e1 : m = (m.toNat : Int) := by omega
    have e2 : ie.bytes * m.toNat ≤ 140737488355328 := by rw [hby, Nat.mul_comm]; exact hbytes
    have e3 : ((ie.bytes * m.toNat : Nat) : Int) ≤ 140737488355328 := by omega
    rw [Int.natCast_mul] at e3
    rw [e1]; omega
  have vx := h.ev x
  have vy := h.ev y
  rw [hx] at vx
  rw [hy] at vy
  have hrun := run_make (P := P) w t e ie v hu hie hiz k k' m m h0 (Int.le_refl _) hb' h63
  have hcells : (ofValue v).cells.length = ie.size := by rw [hzl, hsz]
  have hmsz : (madeCells v.cells (m.toNat * ie.size)).size = m.toNat * ie.size := size_madeCells _ _
  have hfl : (flat (List.replicate m.toNat (ofValue v))).length = m.toNat * ie.size := by
    rw [flat_len (sz := ie.size) (fun y hy => by rw [List.eq_of_mem_replicate hy]; exact hcells), List.length_replicate]
  have hs := h.alloc e (cs := madeCells v.cells (m.toNat * ie.size)) (xs := List.replicate m.toNat (ofValue v)) (sz := (ofValue v).cells.length) (fun y hy => by rw [List.eq_of_mem_replicate hy]) (by rw [hfl, hmsz]; exact Nat.le_refl _)
    (fun i u p hv hp => by
      have hi : i < m.toNat * ie.size := by rw [← hfl]; exact (List.getElem?_eq_some_iff.1 hp).1
      rw [flat_rep, rep_get _ _ _ (by rw [hcells]; exact hi), hcells] at hp
      have hvs : v.cells.size = ie.size := by rw [hc.1, hcells]
      have hpos : 0 < ie.size := by
        rcases Nat.eq_zero_or_pos ie.size with h | h
        · rw [h] at hi; simp at hi
        · exact h
      refine hc.2 (i % ie.size) u p ?_ hp
      rw [← hv]
      have hmod := Nat.mod_lt i hpos
      simp only [madeCells, Array.getElem?_map]
      rw [Array.getElem?_range, if_pos hi, hvs]
      simp [hvs, hmod])
  refine ⟨.slice (some ⟨w.heap.size, 0 * (ofValue v).cells.length, none⟩) m.toNat m.toNat, _, _, _, .inl ?_, hk (.real w.heap.size) (fresh_none h.heap), hs, .arr w.heap.size _ 0 _ _ _ e (0, 0) (Nat.le_refl _) (heap_new w _) (by rw [hmsz, hcells]; simp)⟩
  unfold execOp
  rw [ho]
  simp only [vx.int_inv, vy.int_inv, Sem.run_bind, hrun, Result.andThen_ok, Sem.run_pure, Nat.zero_mul]
end
end Go.Proofs.Ythdgdngdfijfhaa
namespace Go.Proofs.Ythdgdngdfijfhaa
open Go.RowKit
set_option linter.unusedVariables false
set_option linter.unusedSimpArgs false
section
variable {P : Program} {w : World} {X : Nat → Prop} {H : Hp}
theorem splice_left {α : Type} (a b : List α) (off : Nat) (new : List α) (h : off + new.length ≤ a.length) : splice (a ++ b) off new = splice a off new ++ b := by
  unfold splice
  rw [List.take_append_of_le_length (by omega), List.drop_append_of_le_length h]
  simp [List.append_assoc]
theorem splice_right {α : Type} (a b : List α) (off : Nat) (new : List α) : splice (a ++ b) (a.length + off) new = a ++ splice b off new := by
  unfold splice
  have e1 : (a ++ b).take (a.length + off) = a ++ b.take off := by
    rw [List.take_append, List.take_of_length_le (by omega)]; congr 2; omega
  have e2 : (a ++ b).drop (a.length + off + new.length) = b.drop (off + new.length) := by
    rw [List.drop_append, List.drop_of_length_le (by omega), List.nil_append]; congr 1; omega
  rw [e1, e2]; simp [List.append_assoc]
theorem flat_set {sz off : Nat} {x y : PV} {new : List PV} : ∀ {xs : List PV} (i : Nat), (∀ x ∈ xs, x.cells.length = sz) → xs[i]? = some x → off + new.length ≤ sz → y.cells = splice x.cells off new →
    flat (xs.set i y) = splice (flat xs) (i * sz + off) new
  | [], i, _, h, _, _ => by simp at h
  | z :: zs, 0, hs, h, hl, hy => by
    obtain rfl : z = x := by simpa using h
    rw [List.set_cons_zero, flat_cons, flat_cons, hy, Nat.zero_mul, Nat.zero_add, splice_left _ _ _ _ (by rw [hs z List.mem_cons_self]; exact hl)]
  | z :: zs, i + 1, hs, h, hl, hy => by
    have hz := hs z List.mem_cons_self
    rw [List.set_cons_succ, flat_cons, flat_cons, flat_set i (fun y hy => hs y (List.mem_cons_of_mem _ hy)) (by simpa using h) hl hy]
    have : (i + 1) * sz + off = z.cells.length + (i * sz + off) := by rw [hz, Nat.succ_mul]; omega
    rw [this, splice_right]
theorem setC_cells {e v : PV} {off n : Nat} (h1 : v.cells.length = n) (h2 : off + n ≤ e.cells.length) (h3 : e.isAgg = true ∨ v.isAgg = false) : (setC e off v).cells = splice e.cells off v.cells := by
  cases e <;> try rfl
  all_goals
    have hv : v.cells = [v] := by cases v <;> first | rfl | (simp [PV.isAgg] at h3)
    rw [hv] at h1
    simp only [List.length_singleton] at h1
    subst h1
    simp only [PV.cells, List.length_singleton] at h2
    obtain rfl : off = 0 := by omega
    rw [hv]
    exact hv
def CL (w : World) (O : Nat → Prop) (cs : Array Value) (ps : List PV) : Prop := ps.length ≤ cs.size ∧ ∀ (i : Nat) v p, cs[i]? = some v → ps[i]? = some p → VR w O v p
theorem cl_splice {O : Nat → Prop} {cs : Array Value} {ps : List PV} {vs : List Value} {qs : List PV} {r : Array Value} (h : CL w O cs ps) (hl : vs.length = qs.length)
    (hv : ∀ (i : Nat) v p, vs[i]? = some v → qs[i]? = some p → VR w O v p) (off : Nat) (hle : off + qs.length ≤ ps.length) (hr : r.toList = splice cs.toList off vs) : CL w O r (splice ps off qs) ∧ r.size = cs.size := by
  have hsz : r.size = cs.size := by
    rw [← Array.length_toList, hr, splice_len _ _ _ (by have := h.1; simp; omega), Array.length_toList]
  refine ⟨⟨by rw [hsz, splice_len _ _ _ hle]; exact h.1, fun i v p hv' hp => ?_⟩, hsz⟩
  rw [← Array.getElem?_toList, hr, splice_get _ _ _ (by have := h.1; simp; omega), hl] at hv'
  rw [splice_get _ _ _ hle] at hp
  split at hv'
  · rename_i hi
    rw [if_pos hi] at hp
    exact hv _ _ _ hv' hp
  · rename_i hi
    rw [if_neg hi] at hp
    rw [Array.getElem?_toList] at hv'
    exact h.2 _ _ _ hv' hp
theorem upd_twice {α β : Type} [DecidableEq α] (f : α → β) (a : α) (x y : β) : upd (upd f a x) a y = upd f a y := by
  funext z
  simp only [upd_apply]
  split <;> rfl
theorem SR.write {γ : GP} {n : Nat} {w0 : World} {O0 : Nat → Prop} {s : St} {a : Act} (h : SR P γ n w0 O0 X s a w) {b sz : Nat} {xs xs' : List PV} {cs' : Array Value} {t : TypeId} {w' : World}
    (hb : s.H (.real b) = some (.row true sz xs)) (hf : Fr w (fun x => x = b) w') (hb' : w'.heap[b]? = some (.cells cs' t (0, 0))) (hsz : ∀ x ∈ xs', x.cells.length = sz)
    (hc : CL w (both X s.H) cs' (flat xs')) : SR P γ n w0 O0 X { s with H := upd s.H (.real b) (some (.row true sz xs')) } a w' := by
  have hown : ∀ x, own (upd s.H (.real b) (some (.row true sz xs'))) x → own s.H x := by
    rintro x ⟨sz', ys, e⟩
    by_cases hx : x = b
    · subst hx; exact ⟨sz, xs, hb⟩
    · rw [upd_ne _ _ (by intro e; cases e; exact hx rfl)] at e
      exact ⟨sz', ys, e⟩
  have mono : ∀ {v p}, VR w (both X s.H) v p → VR w' (both X (upd s.H (.real b) (some (.row true sz xs')))) v p := fun hv =>
    hv.mono (fun x hx hn => hf.block x hx (fun e => hn (by subst e; exact .inr ⟨sz, xs, hb⟩))) (fun x _ hx => hx.imp id (hown x)) (fun x cs t fr e => by obtain ⟨cs', fr', e', hs⟩ := hf.shape x cs t fr e; exact ⟨cs', fr', e', hs⟩)
  refine ⟨h.size, h.defers, fun i => mono (h.env i), ?_, h.fr.trans hf (fun x hx e => ?_), fun x hx => h.new x (hown x hx), fun x hx => Nat.lt_of_lt_of_le (h.lt x hx) hf.size, h.gs.real _ _⟩
  · intro l m sz' ys hl
    have hl : upd s.H (.real b) (some (.row true sz xs')) l = some (.row m sz' ys) := hl
    by_cases e : l = .real b
    · subst e
      rw [upd_same] at hl
      obtain ⟨rfl, rfl, rfl⟩ : true = m ∧ sz = sz' ∧ xs' = ys := by simpa using hl
      obtain ⟨_, hX, _⟩ := h.heap _ _ _ _ hb
      exact ⟨hsz, hX, cs', t, hb', hc.1, fun i v p hv hp => mono (hc.2 i v p hv hp)⟩
    · rw [upd_ne _ _ e] at hl
      obtain ⟨h1, h2⟩ := h.heap l m sz' ys hl
      refine ⟨h1, ?_⟩
      cases l with
      | real c =>
        have hcb : c ≠ b := by intro e'; subst e'; exact e rfl
        obtain ⟨h3, cs, t', hc', h4, h5⟩ := h2
        exact ⟨h3, cs, t', (hf.block c (lt_of_block hc') hcb).trans hc', h4, fun i v p hv hp => mono (h5 i v p hv hp)⟩
      | ghost g => exact h2
  · subst e
    rcases h.new x ⟨sz, xs, hb⟩ with h' | h'
    · exact h'
    · omega
theorem SR.shrink {γ : GP} {n : Nat} {w0 : World} {O0 : Nat → Prop} {s : St} {a : Act} (h : SR P γ n w0 O0 X s a w) {l : Lab} {sz : Nat} {xs : List PV} (hl : s.H l = some (.row true sz xs)) (k : Nat) :
    SR P γ n w0 O0 X { s with H := upd s.H l (some (.row true sz (xs.take k))) } a w := by
  have hown : ∀ x, own (upd s.H l (some (.row true sz (xs.take k)))) x → own s.H x := by
    rintro x ⟨sz', ys, e⟩
    by_cases hx : Lab.real x = l
    · rw [← hx] at hl; exact ⟨sz, xs, hl⟩
    · rw [upd_ne _ _ hx] at e
      exact ⟨sz', ys, e⟩
  have mono : ∀ {v p}, VR w (both X s.H) v p → VR w (both X (upd s.H l (some (.row true sz (xs.take k))))) v p := fun hv => hv.less (fun x _ hx => hx.imp id (hown x))
  refine ⟨h.size, h.defers, fun i => mono (h.env i), ?_, h.fr, fun x hx => h.new x (hown x hx), h.lt, h.gs.sub fun g c e => by
    by_cases e2 : Lab.ghost g = l
    · exact ⟨_, by rw [e2]; exact hl⟩
    · exact ⟨c, by rw [← e]; exact (upd_ne _ _ e2).symm⟩⟩
  intro l' m sz' ys hl'
  have hl' : upd s.H l (some (.row true sz (xs.take k))) l' = some (.row m sz' ys) := hl'
  by_cases e : l' = l
  · subst e
    rw [upd_same] at hl'
    obtain ⟨rfl, rfl, rfl⟩ : true = m ∧ sz = sz' ∧ xs.take k = ys := by simpa using hl'
    obtain ⟨h1, h2⟩ := h.heap _ _ _ _ hl
    refine ⟨fun x hx => h1 x (List.mem_of_mem_take hx), ?_⟩
    cases l' with
    | real b =>
      obtain ⟨h3, cs, t, hc, h4, h5⟩ := h2
      have hf := flat_take h1 k
      refine ⟨h3, cs, t, hc, by rw [hf, List.length_take]; omega, fun i v p hv hp => mono (h5 i v p hv ?_)⟩
      rw [hf] at hp
      have := (List.getElem?_eq_some_iff.1 hp).1
      rw [List.length_take] at this
      rw [List.getElem?_take_of_lt (by omega)] at hp
      exact hp
    | ghost g => (have h2 : xs = [] := h2); simp [h2]
  · rw [upd_ne _ _ e] at hl'
    obtain ⟨h1, h2⟩ := h.heap l' m sz' ys hl'
    refine ⟨h1, ?_⟩
    cases l' with
    | real c =>
      obtain ⟨h3, cs, t', hc', h4, h5⟩ := h2
      exact ⟨h3, cs, t', hc', h4, fun i v p hv hp => mono (h5 i v p hv hp)⟩
    | ghost g => exact h2
theorem HR.sub {H' : Hp} (hH : HR w X H) (hs : ∀ l c, H' l = some c → H l = some c) : HR w X H' := by
  intro l m sz xs hl
  obtain ⟨h1, h2⟩ := hH l m sz xs (hs _ _ hl)
  refine ⟨h1, ?_⟩
  cases l with
  | real b =>
    obtain ⟨h3, cs, t, hb, h4, h5⟩ := h2
    exact ⟨h3, cs, t, hb, h4, fun i v p hv hp => (h5 i v p hv hp).less (fun x _ hx => hx.imp id (fun ⟨sz, ys, e⟩ => ⟨sz, ys, hs _ _ e⟩))⟩
  | ghost g => exact h2
theorem SR.sub {γ : GP} {n : Nat} {w0 : World} {O0 : Nat → Prop} {s : St} {a : Act} {H' : Hp} (h : SR P γ n w0 O0 X s a w) (hs : ∀ l c, H' l = some c → s.H l = some c) : SR P γ n w0 O0 X { s with H := H' } a w :=
  ⟨h.size, h.defers, fun i => (h.env i).less (fun x _ hx => hx.imp id (fun ⟨sz, ys, e⟩ => ⟨sz, ys, hs _ _ e⟩)), h.heap.sub hs, h.fr, fun b ⟨sz, ys, e⟩ => h.new b ⟨sz, ys, hs _ _ e⟩, h.lt, h.gs.sub fun g c e => ⟨c, hs _ _ e⟩⟩
theorem SR.keep {γ : GP} {n : Nat} {w0 : World} {O0 : Nat → Prop} {s : St} {a : Act} {w' : World} (h : SR P γ n w0 O0 X s a w) (hf : Fr w (fun _ => False) w') : SR P γ n w0 O0 X s a w' :=
  ⟨h.size, h.defers, fun i => (h.env i).keep hf, h.heap.keep hf, h.fr.trans hf (fun _ _ e => e.elim), h.new, fun b hb => Nat.lt_of_lt_of_le (h.lt b hb) hf.size, h.gs⟩
theorem VR.oneCell {O : Nat → Prop} {v : Value} {p : PV} (h : VR w O v p) (hp : p.isCell = true) : v.oneCell' = true := by
  cases h <;> first | rfl | (simp [PV.isCell] at hp)
theorem cells_one {O : Nat → Prop} {cs : List Value} {ps : List PV} (hl : cs.length = ps.length) (hel : ∀ (i : Nat) v p, cs[i]? = some v → ps[i]? = some p → VR w O v p) (h : ps.all PV.isCell = true) : ∀ v ∈ cs, v.oneCell' = true := by
  intro v hv
  obtain ⟨i, hi⟩ := List.mem_iff_getElem?.1 hv
  have hlt : i < ps.length := by rw [← hl]; exact (List.getElem?_eq_some_iff.1 hi).1
  exact (hel i v _ hi (List.getElem?_eq_getElem hlt)).oneCell (List.all_eq_true.1 h _ (List.getElem_mem hlt))
theorem setRow_heap' {b : Nat} {cs cs' : Array Value} {t : TypeId} (h : w.heap[b]? = some (.cells cs t (0, 0))) (hl : cs'.size = cs.size) : Fr w (fun x => x = b) (w.setRow b cs') ∧ (w.setRow b cs').heap[b]? = some (.cells cs' t (0, 0)) := by
  refine ⟨⟨rfl, rfl, rfl, by simp, fun x hx hn => setRow_other w b x cs' hn, fun x c t' fr e => ?_⟩, setRow_heap w b cs cs' t (0, 0) h⟩
  by_cases hx : x = b
  · subst hx
    rw [h] at e
    obtain ⟨rfl, rfl, rfl⟩ : cs = c ∧ t = t' ∧ (0, 0) = fr := by simpa using e
    exact ⟨cs', (0, 0), setRow_heap w x cs cs' t (0, 0) h, hl⟩
  · exact ⟨c, fr, (setRow_other w b x cs' hx).trans e, rfl⟩
theorem did_store {γ : GP} {n : Nat} {w0 : World} {O0 : Nat → Prop} {s : St} {a : Act} {o : Oper} {K : PV → Hp → Prop} (h : SR P γ n w0 O0 X s a w) {t : TypeId} {x y : Operand} (ho : o.op = .store t x y) {full : Bool} (hk : opEff P full s o.op K) : Did P γ n w0 O0 X s a w o K := by
  rw [ho] at hk
  obtain ⟨_, l, sz, i, off, xs, e, hx, hrow, he, hd, hall, hlen, hnz, hfit, hag, hk⟩ := hk
  have hrow := ownRow_of hrow
  have vx := h.ev x
  rw [hx] at vx
  have vy := h.ev y
  have hcy := vy.cells hd
  obtain ⟨vxv, hvx⟩ : ∃ v, a.eval x = v := ⟨_, rfl⟩
  rw [hvx] at vx
  cases vx with
  | ref b sz i off =>
    obtain ⟨hsz, hX, cs, ty, hb, hle, hel⟩ := h.heap _ _ _ _ hrow
    have hesz := hsz e (mem_of_get he)
    have hfl := flat_len hsz
    have hi : i < xs.length := (List.getElem?_eq_some_iff.1 he).1
    have hmul : i * sz + sz ≤ xs.length * sz := by
      have := Nat.mul_le_mul_right sz (Nat.succ_le_of_lt hi)
      rwa [Nat.succ_mul] at this
    have hvl : (a.eval y).cells.toList.length = (evo s y).cells.length := by rw [Array.length_toList]; exact hcy.1
    have hone := cells_one hvl (fun i v p hv hp => hcy.2 i v p (by rwa [Array.getElem?_toList] at hv) hp) hall
    have hbound : i * sz + off + (a.eval y).cells.toList.length ≤ cs.size := by rw [hvl, hlen]; omega
    have hst := run_storeCells_at (P := P) b (i * sz + off) ty (a.eval y).cells.toList 0 cs w hb (by simpa using hbound) hone
    have hset := flat_set (y := setC e off (evo s y)) (new := (evo s y).cells) i hsz he (by omega) (setC_cells hlen (by omega) hag)
    obtain ⟨hcl, hcs⟩ := cl_splice (r := (splice cs.toList (i * sz + off) (a.eval y).cells.toList).toArray) ⟨hle, hel⟩ hvl (fun i v p hv hp => hcy.2 i v p (by rwa [Array.getElem?_toList] at hv) hp) (i * sz + off) (by rw [hlen]; omega) rfl
    obtain ⟨hf, hb'⟩ := setRow_heap' hb hcs
    rw [← hset] at hcl
    have hs := h.write hrow hf hb' (fun z hz => by
      rcases List.mem_or_eq_of_mem_set hz with hz | rfl
      · exact hsz z hz
      · rw [setC_cells hlen (by omega) hag, splice_len _ _ _ (by omega), hesz]) hcl
    refine ⟨undef, _, _, _, .inr ⟨?_, rfl⟩, hk, hs, .tup [] #[] rfl (fun i v p hv hp => by simp at hp)⟩
    obtain ⟨it, hit, his⟩ := info_of_cells hnz
    unfold execOp
    rw [ho]
    simp only [hvx, Instr.storeAt, Instr.sureAddr, Sem.run_bind, Sem.run_pure, Result.andThen_ok, storeVar, sizeOf, typeInfo, run_program, hit]
    rw [if_neg (by rw [hcy.1, hlen, his]; simp)]
    rw [hst]
    simp [splice]
theorem src_slice {size : Nat} {tx : TypeId} (hk : srcT P tx = true) (a : Addr) (n c : Nat) (news : List Value) (hl : news.length = n * size) (hnews : ∀ (j : Nat) u, news[j]? = some u → w.cell? (a.add j) = some u)
    (h1 : ∀ u ∈ news, u.oneCell' = true) : Src P size tx (.slice (some a) n c) n news w := by
  refine ⟨?_, fun _ => rfl, run_firstCells_some w size n a n c news hl hnews, run_firstCells_some w.drew size n a n c news hl (by simpa using hnews), hl, h1⟩
  unfold srcT at hk
  split at hk
  · rename_i e h; exact .inl ⟨e, h⟩
  · rename_i h; exact .inr h
  · cases hk
theorem src_nil {size : Nat} {tx : TypeId} (hk : srcT P tx = true) (a : Option Addr) (c : Nat) : Src P size tx (.slice a 0 c) 0 [] w := by
  have hf : ∀ w : World, (Builtin.firstCells size 0 (.slice a 0 c)).run P w = .ok ([] : List Value).toArray w := by
    intro w
    cases a with
    | none => exact run_firstCells_none w size 0 0 c
    | some ad => exact run_firstCells_some w size 0 ad 0 c [] (by simp) (fun j u h => by simp at h)
  refine ⟨?_, fun _ => rfl, hf w, hf w.drew, by simp, fun _ h => by cases h⟩
  unfold srcT at hk
  split at hk
  · rename_i e h; exact .inl ⟨e, h⟩
  · rename_i h; exact .inr h
  · cases hk
theorem first_nil {size : Nat} (a : Option Addr) (c m : Nat) (hm : m ≤ 0) : (Builtin.firstCells size m (.slice a 0 c)).run P w = .ok (([] : List Value).take (m * size)).toArray w := by
  obtain rfl : m = 0 := by omega
  simp only [List.take_nil]
  cases a with
  | none => exact run_firstCells_none w size 0 0 c
  | some ad => exact run_firstCells_some w size 0 ad 0 c [] (by simp) (fun j u h => by simp at h)
theorem first_some {size : Nat} (a : Addr) (len c : Nat) (news : List Value) {m : Nat} (hm : m * size ≤ news.length) (h : ∀ (j : Nat) u, news[j]? = some u → w.cell? (a.add j) = some u) :
    (Builtin.firstCells size m (.slice (some a) len c)).run P w = .ok (news.take (m * size)).toArray w := by
  refine run_firstCells_some w size m a len c _ (by simp; omega) (fun j u hu => ?_)
  have hj : j < m * size := by
    have := (List.getElem?_eq_some_iff.1 hu).1
    simp at this; omega
  rw [List.getElem?_take_of_lt hj] at hu
  exact h j u hu
theorem flat_bytes : ∀ l : List UInt8, flat (l.map fun b => PV.int .u8 (b.toNat : Int)) = l.map fun b => PV.int .u8 (b.toNat : Int)
  | [] => rfl
  | b :: l => by rw [List.map_cons, flat_cons, flat_bytes l]; rfl
theorem items_run {tx : TypeId} {v : Value} {p : PV} {ys : List PV} {sz : Nat} (hk : srcT P tx = true) (hH : HR w X H) (hv : VR w (both X H) v p) (hi : itemsOf H p = some ys)
    (hys : ∀ y ∈ ys, y.cells.length = sz ∧ y.cells.all PV.isCell = true) :
    ∃ news, Src P sz tx v ys.length news w ∧ news.length = (flat ys).length ∧ (∀ (i : Nat) u q, news[i]? = some u → (flat ys)[i]? = some q → VR w (both X H) u q) ∧
      ∀ m, m ≤ ys.length → (Builtin.firstCells sz m v).run P w = .ok (news.take (m * sz)).toArray w := by
  have hcell : (flat ys).all PV.isCell = true := by
    rw [List.all_eq_true]
    intro x hx
    obtain ⟨y, hy, hx⟩ := List.mem_flatMap.1 hx
    exact List.all_eq_true.1 (hys y hy).2 x hx
  have hfl := flat_len (fun y hy => (hys y hy).1)
  cases p <;> simp only [itemsOf, reduceCtorEq] at hi
  case list k xs =>
    obtain rfl := Option.some.inj hi
    cases hv with
    | list k' _ a cap sz' cs g1 g2 g3 g4 g5 g6 g7 =>
      by_cases hne : xs = []
      · subst hne
        exact ⟨[], src_nil hk a cap, rfl, fun i u q h => by simp at h, fun m hm => first_nil a cap m (by simpa using hm)⟩
      · obtain ⟨b, o, rfl, hlt, hO, hr⟩ := g6 hne
        exact ⟨cs, src_slice hk _ _ _ cs (by rw [g4, hfl]) (fun j u hu => by rw [Addr.add_mid]; exact hr j u hu) (cells_one g4 g7 hcell), g4, g7, fun m hm => first_some _ _ _ cs (by rw [g4, hfl]; exact Nat.mul_le_mul_right _ hm) (fun j u hu => by rw [Addr.add_mid]; exact hr j u hu)⟩
  case arr l sz' lo len =>
    obtain ⟨xs, hxs, hi⟩ := Option.bind_eq_some_iff.1 hi
    split at hi
    · rename_i hle
      obtain rfl := Option.some.inj hi
      obtain ⟨m, hm⟩ := row_of (X := X) hxs
      have hlen : ((xs.drop lo).take len).length = len := by simp; omega
      cases hv with
      | arr0 _ _ _ a => exact ⟨[], by simpa using src_nil hk a 0, by simp [flat], fun i u q h => by simp at h, fun m hm => first_nil a 0 m (by simpa using hm)⟩
      | arr b _ _ _ cap cs0 t0 fr0 hcap hb0 hfit =>
        obtain ⟨hsz, hX, cs, ty, hb, hcs, hel⟩ := hH _ _ _ _ hm
        by_cases h0 : len = 0
        · subst h0
          exact ⟨[], by simpa using src_nil hk _ cap, by simp [flat], fun i u q h => by simp at h, fun m hm => first_nil _ cap m (by simpa using hm)⟩
        · have hzz : sz' = sz := by
            obtain ⟨y, hy⟩ : ∃ y, y ∈ (xs.drop lo).take len := List.exists_mem_of_length_pos (by omega)
            rw [← (hys y hy).1, hsz y (List.mem_of_mem_drop (List.mem_of_mem_take hy))]
          subst hzz
          have hflat : flat ((xs.drop lo).take len) = ((flat xs).drop (lo * sz')).take (len * sz') := by
            rw [flat_take (fun x hx => hsz x (List.mem_of_mem_drop hx)), flat_drop hsz]
          have hxl := flat_len hsz
          have hmul : lo * sz' + len * sz' ≤ xs.length * sz' := by rw [← Nat.add_mul]; exact Nat.mul_le_mul_right _ hle
          have hnl : ((cs.toList.drop (lo * sz')).take (len * sz')).length = (flat ((xs.drop lo).take len)).length := by
            rw [hflat]; simp; omega
          have hne : ∀ (i : Nat) u q, ((cs.toList.drop (lo * sz')).take (len * sz'))[i]? = some u → (flat ((xs.drop lo).take len))[i]? = some q → VR w (both X H) u q := by
            intro i u q hu hq
            rw [hflat] at hq
            have hi : i < len * sz' := by
              have := (List.getElem?_eq_some_iff.1 hu).1
              simp at this; omega
            rw [List.getElem?_take_of_lt hi, List.getElem?_drop] at hu hq
            exact hel _ _ _ (by rwa [Array.getElem?_toList] at hu) hq
          rw [hlen]
          have hmem : ∀ (j : Nat) u, ((cs.toList.drop (lo * sz')).take (len * sz'))[j]? = some u → w.cell? (Addr.add ⟨b, lo * sz', none⟩ j) = some u := by
            intro j u hu
            rw [Addr.add_mid, cell_at hb]
            have hj : j < len * sz' := by
              have := (List.getElem?_eq_some_iff.1 hu).1
              simp at this; omega
            rwa [List.getElem?_take_of_lt hj, List.getElem?_drop, Array.getElem?_toList] at hu
          exact ⟨_, src_slice hk _ _ _ _ (by rw [hnl, hfl, hlen]) hmem (cells_one hnl hne hcell), hnl, hne, fun m hm => first_some _ _ _ _ (by rw [hnl, hfl, hlen]; exact Nat.mul_le_mul_right _ hm) hmem⟩
    · cases hi
  case str l =>
    obtain rfl := Option.some.inj hi
    rw [hv.str_inv]
    have hfl' := flat_bytes l
    have hs : (⟨l.toArray⟩ : ByteArray).size = l.length := by simp [ByteArray.size]
    have hf : ∀ w : World, (Builtin.firstCells sz l.length (.string ⟨l.toArray⟩)).run P w = .ok (l.map fun b => Value.int .u8 (b.toNat : Int)).toArray w := by
      intro w
      simp only [Builtin.firstCells, Sem.run_pure]
      congr 1
      apply Array.ext'
      simp [ByteArray.data_extract]
    refine ⟨l.map fun b => Value.int .u8 (b.toNat : Int), ⟨?_, ?_, ?_, ?_, ?_, ?_⟩, by rw [hfl']; simp, fun i u q hu hq => ?_, fun m hm => ?_⟩
    · unfold srcT at hk
      split at hk
      · rename_i e h; exact .inl ⟨e, h⟩
      · rename_i h; exact .inr h
      · cases hk
    · intro w'; simp [Builtin.lenOf, hs]
    · simpa using hf w
    · simpa using hf w.drew
    · rw [hfl'] at hfl
      simpa using hfl
    · intro u hu
      obtain ⟨b, _, rfl⟩ := List.mem_map.1 hu
      rfl
    · rw [hfl'] at hq
      rw [List.getElem?_map] at hu hq
      cases e : l[i]? with
      | none => simp [e] at hu
      | some b =>
        rw [e] at hu hq
        obtain rfl : Value.int .u8 (b.toNat : Int) = u := by simpa using hu
        obtain rfl : PV.int .u8 (b.toNat : Int) = q := by simpa using hq
        exact .int _ _
    · have hsz1 : l ≠ [] → sz = 1 := by
        intro hne
        obtain ⟨b, l', rfl⟩ := List.exists_cons_of_ne_nil hne
        exact (hys _ List.mem_cons_self).1.symm
      have hmm : m * sz = m ∨ l = [] := by
        by_cases hne : l = []
        · exact .inr hne
        · rw [hsz1 hne]; exact .inl (Nat.mul_one m)
      simp only [Builtin.firstCells, Sem.run_pure]
      congr 1
      apply Array.ext'
      rcases hmm with h | h
      · rw [h]; simp [ByteArray.data_extract, List.map_take]
      · subst h; simp [ByteArray.data_extract]
end
end Go.Proofs.Ythdgdngdfijfhaa
namespace Go.Proofs.Ythdgdngdfijfhaa
open Go.RowKit
set_option linter.unusedVariables false
set_option linter.unusedSimpArgs false
section
variable {P : Program} {w : World} {X : Nat → Prop} {H : Hp}
theorem size_zeroCells (z : Array Value) (n : Nat) : (Builtin.zeroCells z n).size = n * z.size := by simp [Builtin.zeroCells]
theorem room_int {n bytes : Nat} (h : n * bytes ≤ roomB) (hb : 0 < bytes) : (n : Int) ≤ 9223372036854775807 := by
  unfold roomB at h
  have : n ≤ n * bytes := Nat.le_mul_of_pos_right _ hb
  omega
theorem SR.grow {γ : GP} {n : Nat} {w0 : World} {O0 : Nat → Prop} {s : St} {a : Act} (h : SR P γ n w0 O0 X s a w) {olds news : List Value} {po pn : List PV} {z : Array Value} {e : TypeId} {sz need cap : Nat}
    (hz : z.size = sz) (hol : olds.length = (flat po).length) (hnl : news.length = (flat pn).length)
    (ho : ∀ (i : Nat) v p, olds[i]? = some v → (flat po)[i]? = some p → VR w (both X s.H) v p) (hn : ∀ (i : Nat) v p, news[i]? = some v → (flat pn)[i]? = some p → VR w (both X s.H) v p)
    (hso : ∀ x ∈ po, x.cells.length = sz) (hsn : ∀ x ∈ pn, x.cells.length = sz) (hneed : need = po.length + pn.length) (hcap : need ≤ cap) :
    SR P γ n w0 O0 X { s with H := upd s.H (.real w.heap.size) (some (.row true sz (po ++ pn))) } a (w.drew.alloc (.cells ((olds ++ news).toArray ++ Builtin.zeroCells z (cap - need)) e)) ∧
    VR (w.drew.alloc (.cells ((olds ++ news).toArray ++ Builtin.zeroCells z (cap - need)) e)) (both X (upd s.H (.real w.heap.size) (some (.row true sz (po ++ pn)))))
      (.slice (some ⟨w.heap.size, 0, none⟩) need cap) (.arr (.real w.heap.size) sz 0 need) := by
  have hd : Fr w (fun _ => False) w.drew := Fr.drew w _
  have hk := h.keep hd
  have hall : ∀ x ∈ po ++ pn, x.cells.length = sz := fun x hx => (List.mem_append.1 hx).elim (hso x) (hsn x)
  have hfl := flat_len hall
  have hlo := flat_len hso
  have hln := flat_len hsn
  have hsize : ((olds ++ news).toArray ++ Builtin.zeroCells z (cap - need)).size = cap * sz := by
    rw [Array.size_append, size_zeroCells, hz, List.size_toArray, List.length_append, hol, hnl, hlo, hln, ← Nat.add_mul, ← hneed, ← Nat.add_mul]
    congr 1
    omega
  refine ⟨?_, ?_⟩
  · refine hk.alloc (w := w.drew) e hall (by rw [hsize, hfl, List.length_append, ← hneed]; exact Nat.mul_le_mul_right _ hcap) (fun i v p hv hp => ?_)
    have hi : i < (flat (po ++ pn)).length := (List.getElem?_eq_some_iff.1 hp).1
    rw [flat_append, List.length_append] at hi
    rw [Array.getElem?_append_left (by simp; omega), List.getElem?_toArray] at hv
    rw [flat_append] at hp
    rcases Nat.lt_or_ge i (flat po).length with h1 | h1
    · rw [List.getElem?_append_left h1] at hp
      rw [List.getElem?_append_left (by omega)] at hv
      exact (ho i v p hv hp).keep hd
    · rw [List.getElem?_append_right h1] at hp
      rw [List.getElem?_append_right (by omega), hol] at hv
      exact (hn _ v p hv hp).keep hd
  · have := VR.arr (w := w.drew.alloc (.cells ((olds ++ news).toArray ++ Builtin.zeroCells z (cap - need)) e)) (O := both X (upd s.H (.real w.heap.size) (some (.row true sz (po ++ pn))))) w.heap.size sz 0 need cap _ e (0, 0) hcap (heap_new w.drew _) (by rw [hsize, Nat.zero_add]; exact Nat.le_refl _)
    rwa [Nat.zero_mul] at this
theorem did_append {γ : GP} {n : Nat} {w0 : World} {O0 : Nat → Prop} {s : St} {a : Act} {o : Oper} {K : PV → Hp → Prop} (h : SR P γ n w0 O0 X s a w) {args : Array Operand} {ts : Array TypeId}
    (ho : o.op = .call ⟨.builtin .append, args, ts⟩) {full : Bool} (hk : opEff P full s o.op K) : Did P γ n w0 O0 X s a w o K := by
  rw [ho] at hk
  obtain ⟨t0, t1, x, y, e, rfl, rfl, hu, hsrc, ys, hys, hcells, hzero, hsz0, hby0, hk⟩ := hk
  have vx := h.ev x
  have vy := h.ev y
  obtain ⟨z, hz, hzl⟩ := Option.map_eq_some_iff.1 hzero
  obtain ⟨ie, vz, hie, hiz, rfl, _⟩ := zero_of (w := w) hz
  have hzc := ofValue_cells w (both X s.H) vz
  have hsz : ie.size = P.cellsOf e := by simp [Program.cellsOf, hie]
  have hby : ie.bytes = P.bytesOf e := by simp [Program.bytesOf, hie]
  obtain ⟨news, hS, hnl, hnel, _⟩ := items_run hsrc h.heap vy hys hcells
  have hfy := flat_len (fun y hy => (hcells y hy).1)
  have hx0 : execOp a.eval o = (do pure (.value (← Builtin.append_ #[t0, t1] o.type #[a.eval x, a.eval y]))) := by
    unfold execOp
    rw [ho]
    simp only [resolve, pure_bind, invoke]
    rw [show (#[x, y] : Array Operand).map a.eval = #[a.eval x, a.eval y] from by simp]
    rfl
  have fin : ∀ v w', (Builtin.append_ #[t0, t1] o.type #[a.eval x, a.eval y]).run P w = .ok v w' → (execOp a.eval o).run P w = .ok (.value v) w' := by
    intro v w' hr
    rw [hx0]
    simp [hr]
  -- nothing is appended, and there is nothing to do
  have none_ : ∀ ad len cap, ys = [] → a.eval x = .slice ad len cap → len ≤ cap → (execOp a.eval o).run P w = .ok (.value (.slice ad len cap)) w := by
    intro ad len cap hy he hc
    subst hy
    obtain rfl : news = [] := List.eq_nil_of_length_eq_zero (by rw [hnl]; simp [flat])
    refine fin _ _ ?_
    rw [he]
    have hc2 := hS.cells
    rcases hS.kind with ⟨e', hk⟩ | hk <;> cases ad <;>
      simp [Builtin.append_, run_underlying hu, run_underlying hk, sizeOf, typeInfo, hie, hS.len, hc, hsz, hS.cells, storeCells, show (Builtin.firstCells (P.cellsOf e) 0 (a.eval y)).run P w = .ok #[] w from hc2]
  -- a new row
  have grow : ∀ (s' : St) (ad : Option Addr) (len cap : Nat) (olds : List Value) (po : List PV), SR P γ n w0 O0 X s' a w → (∀ b, own s'.H b → own s.H b) → a.eval x = .slice ad len cap → len = po.length → cap < len + ys.length →
      olds.length = (flat po).length → (∀ (i : Nat) v p, olds[i]? = some v → (flat po)[i]? = some p → VR w (both X s'.H) v p) → (∀ x ∈ po, x.cells.length = P.cellsOf e) →
      (Builtin.firstCells ie.size len (.slice ad len cap)).run P w.drew = .ok olds.toArray w.drew → (len + ys.length) * P.bytesOf e ≤ roomB →
      K (.arr (.real w.heap.size) (P.cellsOf e) 0 (len + ys.length)) (upd s'.H (.real w.heap.size) (some (.row true (P.cellsOf e) (po ++ ys)))) → s'.env = s.env → Did P γ n w0 O0 X s a w o K := by
    intro s' ad len cap olds po hs' hown he hlen hg hol hoel hpo hfc hroom hK henv
    have hfit := growslice_fits (old := cap) (bytes := ie.bytes) hg (by rw [hby]; exact hroom)
    have h63 := room_int hroom hby0
    have hrun := run_append_grow_src w t0 t1 o.type e ie vz hu hie hiz ad len cap olds hfc (a.eval y) ys.length news (by rw [hsz]; exact hS) hg h63 hfit
    rw [← he] at hrun
    obtain ⟨h1, h2⟩ := hs'.grow (e := e) (z := vz.cells) (sz := P.cellsOf e) (need := len + ys.length) (cap := grownCap w (len + ys.length) cap e) (by rw [hzc.1, hzl]) hol hnl hoel
      (fun i v p hv hp => (hnel i v p hv hp).less (fun b _ hb => hb.imp id (hown b))) hpo (fun y hy => (hcells y hy).1) (by rw [hlen]) (grownCap_ge _ _ _ _)
    refine ⟨_, _, _, _, .inl (fin _ _ hrun), hK, ?_, h2⟩
    have : ({ s with H := upd s'.H (.real w.heap.size) (some (.row true (P.cellsOf e) (po ++ ys))) } : St) = { s' with H := upd s'.H (.real w.heap.size) (some (.row true (P.cellsOf e) (po ++ ys))) } := by
      cases s; cases s'; simp_all
    rw [this]
    exact h1
  generalize hpx : evo s x = px at hk vx
  obtain ⟨ux, hux⟩ : ∃ u, a.eval x = u := ⟨_, rfl⟩
  rw [hux] at vx
  cases px <;> simp only at hk
  case list k xs =>
    obtain ⟨hne, hxs, hroom, hk⟩ := hk
    cases vx with
    | list _ _ ad cap sz cs g1 g2 g3 g4 g5 g6 g7 =>
      have hcap : cap = xs.length := by
        cases k
        · cases hne
        · exact g3.1 rfl
        · obtain ⟨_, h0⟩ := g2 rfl; omega
        · cases hne
      subst hcap
      by_cases hy : ys = []
      · rw [if_pos hy] at hk
        exact ⟨_, w, _, _, .inl (none_ ad _ _ hy hux (Nat.le_refl _)), hk, h, .list k xs ad xs.length sz cs g1 g2 g3 g4 g5 g6 g7⟩
      · rw [if_neg hy] at hk
        have hpos : 0 < ys.length := List.length_pos_iff.2 hy
        have hol : cs.length = (flat xs).length := g4
        refine grow s ad xs.length xs.length cs xs h (fun _ h => h) hux rfl (by omega) hol g7 hxs ?_ hroom (hk _ (fresh_none h.heap)) rfl
        by_cases hx : xs = []
        · subst hx
          obtain rfl : cs = [] := List.eq_nil_of_length_eq_zero (by rw [hol]; simp [flat])
          exact (src_nil (P := P) (w := w.drew) (size := ie.size) (tx := t1) hsrc ad 0).cells
        · obtain ⟨b, o', rfl, hlt, hO, hr⟩ := g6 hx
          exact run_firstCells_some w.drew _ _ _ _ _ cs (by rw [hol, flat_len hxs, hsz]) (fun j v hv => by rw [Addr.add_mid]; simpa using hr j v hv)
  case arr l sz lo len =>
    obtain ⟨_, rfl, rfl, hroom, xs0, hxs, hle0, hk⟩ := hk
    have hrow := ownRow_of hxs
    have hshr := h.shrink hrow len
    obtain ⟨hxsz0, hrest⟩ := h.heap _ _ _ _ hrow
    have hpre : ∀ (i : Nat) p, (flat (xs0.take len))[i]? = some p → (flat xs0)[i]? = some p := fun i p hp => by
      rw [flat_take hxsz0] at hp
      have := (List.getElem?_eq_some_iff.1 hp).1
      rw [List.length_take] at this
      rwa [List.getElem?_take_of_lt (by omega)] at hp
    have hpl : (flat (xs0.take len)).length ≤ (flat xs0).length := by rw [flat_take hxsz0, List.length_take]; omega
    obtain ⟨xs, hxe⟩ : ∃ xs, xs = xs0.take len := ⟨_, rfl⟩
    rw [← hxe] at hk hshr hpre hpl
    have hlen : len = xs.length := by rw [hxe, List.length_take]; omega
    have hxsz : ∀ x ∈ xs, x.cells.length = P.cellsOf e := fun x hx => hxsz0 x (List.mem_of_mem_take (hxe ▸ hx))
    have hsub : SR P γ n w0 O0 X { s with H := upd s.H l none } a w := h.sub (fun l' c e => by
      simp only [upd_apply] at e
      split at e
      · cases e
      · exact e)
    have hown : ∀ b, own (upd s.H l none) b → own s.H b := by
      rintro b ⟨sz', ys', e⟩
      simp only [upd_apply] at e
      split at e
      · cases e
      · exact ⟨sz', ys', e⟩
    have hfresh : s.H (.real w.heap.size) = none := fresh_none h.heap
    have newrow : ∀ (ad : Option Addr) (cap : Nat) (olds : List Value), a.eval x = .slice ad len cap → cap < len + ys.length → olds.length = (flat xs).length →
        (∀ (i : Nat) v p, olds[i]? = some v → (flat xs)[i]? = some p → VR w (both X s.H) v p) → (Builtin.firstCells ie.size len (.slice ad len cap)).run P w.drew = .ok olds.toArray w.drew → Did P γ n w0 O0 X s a w o K := by
      intro ad cap olds he hg hol hoel hfc
      rcases hk.2 (.real w.heap.size) hfresh with hk' | hk'
      · exact grow s ad len cap olds xs h (fun _ h => h) he hlen hg hol hoel hxsz hfc hroom hk' rfl
      · exact grow { s with H := upd s.H l none } ad len cap olds xs hsub hown he hlen hg hol (fun i v p hv hp => (hoel i v p hv hp).less (fun b _ hb => hb.imp id (hown b))) hxsz hfc hroom hk' rfl
    have same : ys = [] → upd s.H l (some (.row true (P.cellsOf e) (xs ++ ys))) = upd s.H l (some (.row true (P.cellsOf e) xs)) := by
      intro hy
      subst hy
      rw [List.append_nil]
    have idle : ys = [] → ∀ ad cap, a.eval x = .slice ad len cap → len ≤ cap → (∀ O, VR w O (.slice ad len cap) (.arr l (P.cellsOf e) 0 len)) → Did P γ n w0 O0 X s a w o K := by
      intro hy ad cap he hc hv
      have hk' := hk.1
      rw [same hy] at hk'
      have hl0 : len + ys.length = len := by rw [hy]; rfl
      rw [hl0] at hk'
      exact ⟨_, w, _, _, .inl (none_ ad _ _ hy he hc), hk', hshr, hv _⟩
    cases vx with
    | arr0 _ _ _ ad =>
      obtain rfl : xs = [] := List.eq_nil_of_length_eq_zero hlen.symm
      by_cases hy : ys = []
      · exact idle hy ad 0 hux (Nat.le_refl _) (fun O => .arr0 _ _ _ _)
      · have hpos : 0 < ys.length := List.length_pos_iff.2 hy
        exact newrow ad 0 [] hux (by omega) (by simp [flat]) (fun i v p hv => by simp at hv) (src_nil (P := P) (w := w.drew) (size := ie.size) (tx := t1) hsrc ad 0).cells
    | arr b _ _ _ cap cs0 t' fr hcap hb0 hfit =>
      by_cases hy : ys = []
      · exact idle hy _ cap hux hcap (fun O => .arr b _ _ _ cap cs0 t' fr hcap hb0 hfit)
      · have hpos : 0 < ys.length := List.length_pos_iff.2 hy
        obtain ⟨hX, cs, ty, hb, hle1, hel1⟩ := hrest
        have hle : (flat xs).length ≤ cs.size := Nat.le_trans hpl hle1
        have hel : ∀ (i : Nat) v p, cs[i]? = some v → (flat xs)[i]? = some p → VR w (both X s.H) v p := fun i v p hv hp => hel1 i v p hv (hpre i p hp)
        rw [hb] at hb0
        obtain ⟨rfl, rfl, rfl⟩ : cs = cs0 ∧ ty = t' ∧ (0, 0) = fr := by simpa using hb0
        have hxl := flat_len hxsz
        simp only [Nat.zero_mul, Nat.zero_add] at hux hfit
        by_cases hroom' : len + ys.length ≤ cap
        · -- in place
          have hbd : len * P.cellsOf e + news.length ≤ cs.size := by
            rw [hnl, hfy, ← Nat.add_mul]
            exact Nat.le_trans (Nat.mul_le_mul_right _ hroom') hfit
          have hst := run_storeCells_at (P := P) b (len * P.cellsOf e) ty news 0 cs w hb (by simpa using hbd) hS.one
          simp only [Nat.add_zero] at hst
          have hrun : (Builtin.append_ #[t0, t1] o.type #[a.eval x, a.eval y]).run P w = .ok (.slice (some ⟨b, 0, none⟩) (len + ys.length) cap) (w.setRow b (splice cs.toList (len * P.cellsOf e) news).toArray) := by
            rw [hux]
            rcases hS.kind with ⟨e', hk⟩ | hk <;>
              simp [Builtin.append_, run_underlying hu, run_underlying hk, sizeOf, typeInfo, hie, hS.len, hroom', hsz, hS.cells, Addr.add_mid, hst, splice]
          have hlen2 : (splice cs.toList (len * P.cellsOf e) news).toArray.size = cs.size := by
            rw [List.size_toArray, splice_len _ _ _ (by simpa using hbd), Array.length_toList]
          obtain ⟨hf, hb'⟩ := setRow_heap' hb hlen2
          have hall : ∀ v ∈ xs ++ ys, v.cells.length = P.cellsOf e := fun v hv => (List.mem_append.1 hv).elim (hxsz v) (fun hv => (hcells v hv).1)
          have hs := h.write hrow hf hb' hall ⟨by rw [flat_append, List.length_append, hxl, hlen2, ← hnl, ← hlen]; exact hbd, fun i v p hv hp => by
            rw [List.getElem?_toArray, splice_get _ _ _ (by simpa using hbd)] at hv
            rw [flat_append] at hp
            split at hv
            · rename_i hi
              rw [List.getElem?_append_right (by rw [hxl, ← hlen]; exact hi.1), hxl, ← hlen] at hp
              exact hnel _ _ _ hv hp
            · rename_i hi
              have hi2 : i < (flat xs).length := by
                have := (List.getElem?_eq_some_iff.1 hp).1
                rw [List.length_append, ← hnl, hxl, ← hlen] at this
                rw [hxl, ← hlen]
                omega
              rw [List.getElem?_append_left hi2] at hp
              exact hel _ _ _ (by rwa [Array.getElem?_toList] at hv) hp⟩
          have hk' := hk.1
          refine ⟨_, _, _, _, .inl (fin _ _ hrun), hk', hs, ?_⟩
          have := VR.arr (w := w.setRow b (splice cs.toList (len * P.cellsOf e) news).toArray) (O := both X (upd s.H (.real b) (some (.row true (P.cellsOf e) (xs ++ ys))))) b (P.cellsOf e) 0 (len + ys.length) cap _ ty (0, 0) hroom' hb' (by rw [hlen2, Nat.zero_add]; exact hfit)
          rwa [Nat.zero_mul] at this
        · refine newrow _ cap (cs.toList.take (len * P.cellsOf e)) hux (by omega) (by rw [hxl, ← hlen, List.length_take, Array.length_toList]; have := Nat.mul_le_mul_right (P.cellsOf e) hcap; omega) (fun i v p hv hp => ?_) ?_
          · have hi : i < len * P.cellsOf e := by
              have := (List.getElem?_eq_some_iff.1 hv).1
              simp at this; omega
            rw [List.getElem?_take_of_lt hi, Array.getElem?_toList] at hv
            exact hel _ _ _ hv hp
          · refine run_firstCells_some w.drew _ _ _ _ _ _ (by rw [List.length_take, Array.length_toList, hsz]; have := Nat.mul_le_mul_right (P.cellsOf e) hcap; omega) (fun j v hv => ?_)
            have hj : j < len * P.cellsOf e := by
              have := (List.getElem?_eq_some_iff.1 hv).1
              simp at this; omega
            rw [List.getElem?_take_of_lt hj, Array.getElem?_toList] at hv
            rw [Addr.add_mid, Nat.zero_add]
            rw [cell_at (w := w.drew) (cs := cs) (t := ty) (fr := (0, 0)) hb]
            exact hv
theorem splice_nil {α : Type} (xs : List α) (o : Nat) : splice xs o [] = xs := by simp [splice]
theorem flat_splice {sz : Nat} {xs ys : List PV} {lo : Nat} (hx : ∀ x ∈ xs, x.cells.length = sz) (hy : ∀ y ∈ ys, y.cells.length = sz) :
    flat (splice xs lo ys) = splice (flat xs) (lo * sz) (flat ys) := by
  unfold splice
  rw [flat_append, flat_append, flat_take hx, flat_drop hx, flat_len hy, Nat.add_mul]
theorem did_copy {γ : GP} {n : Nat} {w0 : World} {O0 : Nat → Prop} {s : St} {a : Act} {o : Oper} {K : PV → Hp → Prop} (h : SR P γ n w0 O0 X s a w) {args : Array Operand} {ts : Array TypeId}
    (ho : o.op = .call ⟨.builtin .copy, args, ts⟩) {full : Bool} (hk : opEff P full s o.op K) : Did P γ n w0 O0 X s a w o K := by
  rw [ho] at hk
  obtain ⟨_, t0, t1, x, y, e, rfl, rfl, hu, hsrc, l, sz, lo, len, xs, ys, hx, hxs, rfl, hle, hys, hcells, hnz, hk⟩ := hk
  have hrow := ownRow_of hxs
  have vx := h.ev x
  have vy := h.ev y
  rw [hx] at vx
  obtain ⟨ie, hie, hsz⟩ := info_of_cells hnz
  obtain ⟨news, hS, hnl, hnel, hfirst⟩ := items_run hsrc h.heap vy hys hcells
  have hfy := flat_len (fun y hy => (hcells y hy).1)
  have hx0 : execOp a.eval o = (do pure (.value (← Builtin.copy_ #[t0, t1] o.type #[a.eval x, a.eval y]))) := by
    unfold execOp
    rw [ho]
    simp only [resolve, pure_bind, invoke]
    rw [show (#[x, y] : Array Operand).map a.eval = #[a.eval x, a.eval y] from by simp]
    rfl
  obtain ⟨ux, hux⟩ : ∃ u, a.eval x = u := ⟨_, rfl⟩
  rw [hux] at vx
  have hmin : min ys.length len ≤ ys.length := Nat.min_le_left _ _
  have hf := hfirst _ hmin
  have hlen' : ∀ w : World, (Builtin.lenOf (a.eval y)).run P w = .ok ys.length w := hS.len
  cases vx with
  | arr0 _ _ _ ad =>
    have hsame : upd s.H l (some (.row true (P.cellsOf e) (splice xs lo (ys.take 0)))) = s.H := by
      rw [List.take_zero, splice_nil]
      funext l'
      simp only [upd_apply]
      split
      · rename_i e; subst e; exact hrow.symm
      · rfl
    rw [hsame] at hk
    simp only [Nat.min_zero, Nat.zero_mul, List.take_zero] at hf hk
    refine ⟨_, w, _, _, .inl ?_, hk, h, .int _ _⟩
    rw [hx0, hux]
    cases ad <;> simp [Builtin.copy_, run_underlying hu, hlen', sizeOf, typeInfo, hie, hsz, hf, storeCells, goInt]
  | arr b _ _ _ cap cs0 t' fr hcap hb0 hfit =>
    obtain ⟨hxsz, hX, cs, ty, hb, hle', hel⟩ := h.heap _ _ _ _ hrow
    have hxl := flat_len hxsz
    have htk : ∀ y ∈ ys.take len, y.cells.length = P.cellsOf e := fun y hy => (hcells y (List.mem_of_mem_take hy)).1
    have hnew : (news.take ((min ys.length len) * P.cellsOf e)).length = (flat (ys.take len)).length := by
      rw [flat_len htk, List.length_take, List.length_take, hnl, hfy, Nat.min_comm len, ← Nat.mul_min_mul_right, Nat.min_comm (ys.length * P.cellsOf e)]
      omega
    have hfull : lo * P.cellsOf e + (flat (ys.take len)).length ≤ (flat xs).length := by
      rw [flat_len htk, hxl, ← Nat.add_mul]
      refine Nat.mul_le_mul_right _ ?_
      simp only [List.length_take]
      omega
    have hflt : flat (ys.take len) = (flat ys).take ((min ys.length len) * P.cellsOf e) := by
      have e1 : ys.take len = ys.take (min ys.length len) := by
        rw [List.take_eq_take_iff]; simp; omega
      rw [e1, flat_take (fun y hy => (hcells y hy).1)]
    have hval : ∀ (i : Nat) v p, (news.take ((min ys.length len) * P.cellsOf e))[i]? = some v → (flat (ys.take len))[i]? = some p → VR w (both X s.H) v p := by
      intro i v p hv hp
      rw [hflt] at hp
      have hi : i < (min ys.length len) * P.cellsOf e := by
        have := (List.getElem?_eq_some_iff.1 hv).1
        simp only [List.length_take] at this; omega
      rw [List.getElem?_take_of_lt hi] at hv hp
      exact hnel _ _ _ hv hp
    have hone : ∀ v ∈ news.take ((min ys.length len) * P.cellsOf e), v.oneCell' = true := fun v hv => hS.one v (List.mem_of_mem_take hv)
    have hst := run_storeCells_at (P := P) b (lo * P.cellsOf e) ty (news.take ((min ys.length len) * P.cellsOf e)) 0 cs w hb (by rw [hnew]; omega) hone
    obtain ⟨hcl, hcs⟩ := cl_splice (r := (splice cs.toList (lo * P.cellsOf e) (news.take ((min ys.length len) * P.cellsOf e))).toArray) ⟨hle', hel⟩ hnew hval (lo * P.cellsOf e) hfull rfl
    obtain ⟨hfr, hb'⟩ := setRow_heap' hb hcs
    rw [← flat_splice hxsz htk] at hcl
    have hs := h.write hrow hfr hb' (fun z hz => by
      unfold splice at hz
      rcases List.mem_append.1 hz with hz | hz
      · rcases List.mem_append.1 hz with hz | hz
        · exact hxsz z (List.mem_of_mem_take hz)
        · exact htk z hz
      · exact hxsz z (List.mem_of_mem_drop hz)) hcl
    refine ⟨_, _, _, _, .inl ?_, hk, hs, .int _ _⟩
    rw [hx0, hux]
    simp only [Nat.add_zero] at hst
    simp [Builtin.copy_, run_underlying hu, hlen', sizeOf, typeInfo, hie, hsz, hf, hst, goInt, splice]
theorem did_box {γ : GP} {n : Nat} {w0 : World} {O0 : Nat → Prop} {s : St} {a : Act} {o : Oper} {K : PV → Hp → Prop} (h : SR P γ n w0 O0 X s a w) {t : TypeId} {x : Operand} (ho : o.op = .box t x) {full : Bool} (hk : opEff P full s o.op K) : Did P γ n w0 O0 X s a w o K := by
  rw [ho] at hk
  obtain ⟨hd, hk⟩ := hk
  have hc := (h.ev x).cells hd
  have hrun : (execOp a.eval o).run P w = .ok (.value (.pointer (some ⟨w.heap.size, 0, none⟩))) (w.alloc (.cells (a.eval x).cells t)) := by
    unfold execOp
    rw [ho]
    simp only [Instr.box, Sem.run_bind, newVar_run, Result.andThen_ok, Sem.run_pure, Nat.zero_mul, Nat.add_zero]
  rcases hk with hk | hk
  · have hfr := Fr.alloc w (.cells (a.eval x).cells t) (fun _ => False)
    refine ⟨_, _, _, _, .inl hrun, hk, h.keep hfr, .cptr w.heap.size 0 _ (a.eval x).cells.toList (by simp) ?_ ?_ ?_ ?_⟩
    · rintro (hb | ⟨sz, ys, e⟩)
      · exact absurd (h.lt _ hb) (Nat.lt_irrefl _)
      · have := fresh_none h.heap; rw [this] at e; cases e
    · simpa using hc.1
    · intro j v hv
      unfold World.cell?
      rw [heap_new]
      simpa using hv
    · intro i v p hv hp
      exact (hc.2 i v p (by simpa using hv) hp).keep hfr
  refine ⟨_, _, _, _, .inl ?_, hk (.real w.heap.size) (fresh_none h.heap), h.alloc t (cs := (a.eval x).cells) (fun y hy => by simp at hy; rw [hy]) (by rw [flat_one]; exact Nat.le_of_eq hc.1.symm) (fun i v p hv hp => hc.2 i v p hv (by rwa [flat_one] at hp)), .ref w.heap.size _ 0 0⟩
  unfold execOp
  rw [ho]
  simp only [Instr.box, Sem.run_bind, newVar_run, Result.andThen_ok, Sem.run_pure, Nat.zero_mul, Nat.add_zero]
theorem eff_run {γ : GP} {n : Nat} {w0 : World} {O0 : Nat → Prop} {s : St} {a : Act} {o : Oper} {K : PV → Hp → Prop} (h : SR P γ n w0 O0 X s a w) {full : Bool} (hk : opEff P full s o.op K) : Did P γ n w0 O0 X s a w o K := by
  have hk' := hk
  unfold opEff at hk'
  split at hk'
  · rename_i t e; exact did_alloc h e hk
  · rename_i t x e; exact did_box h e hk
  · rename_i t x y e; exact did_store h e hk
  · rename_i t x y e; exact did_make h e hk
  · rename_i args ts e; exact did_append h e hk
  · rename_i args ts e; exact did_copy h e hk
  · exact hk'.elim
end
end Go.Proofs.Ythdgdngdfijfhaa
namespace Go.Proofs.Ythdgdngdfijfhaa
open Go.RowKit
set_option linter.unusedVariables false
set_option linter.unusedSimpArgs false
section
variable {P : Program} {w : World} {X : Nat → Prop} {H : Hp}
theorem mapM_get {α β : Type} {f : α → Option β} : ∀ {xs : List α} {ys : List β}, xs.mapM f = some ys → ys.length = xs.length ∧ ∀ (i : Nat) x, xs[i]? = some x → ∃ y, ys[i]? = some y ∧ f x = some y
  | [], ys, h => by
    simp at h; subst h
    exact ⟨rfl, fun i x h => by simp at h⟩
  | x :: xs, ys, h => by
    simp only [List.mapM_cons, Option.bind_eq_bind, Option.pure_def] at h
    obtain ⟨y, hy, h⟩ := Option.bind_eq_some_iff.1 h
    obtain ⟨zs, hz, h⟩ := Option.bind_eq_some_iff.1 h
    obtain rfl := Option.some.inj h
    obtain ⟨h1, h2⟩ := mapM_get hz
    refine ⟨by simp [h1], fun i u hu => ?_⟩
    cases i with
    | zero =>
      obtain rfl : x = u := by simpa using hu
      exact ⟨y, by simp, hy⟩
    | succ i =>
      obtain ⟨v, hv, hf⟩ := h2 i u (by simpa using hu)
      exact ⟨v, by simpa using hv, hf⟩
theorem mapM_back {α β : Type} {f : α → Option β} {xs : List α} {ys : List β} (h : xs.mapM f = some ys) {i : Nat} {y : β} (hy : ys[i]? = some y) : ∃ x, xs[i]? = some x ∧ f x = some y := by
  obtain ⟨h1, h2⟩ := mapM_get h
  have hi : i < xs.length := by rw [← h1]; exact (List.getElem?_eq_some_iff.1 hy).1
  obtain ⟨y', hy', hf⟩ := h2 i _ (List.getElem?_eq_getElem hi)
  rw [hy] at hy'
  obtain rfl := Option.some.inj hy'
  exact ⟨_, List.getElem?_eq_getElem hi, hf⟩
theorem closedL_get {keep : Bool} {cs : List PV} (h : closedL keep cs = true) {i : Nat} {c : PV} (hc : cs[i]? = some c) : closedB keep c = true := by
  rw [closedL_eq] at h
  exact List.all_eq_true.1 h c (mem_of_get hc)
theorem closed_cells {keep : Bool} {p : PV} (h : closedB keep p = true) {i : Nat} {c : PV} (hc : p.cells[i]? = some c) : closedB keep c = true := by
  cases p
  case agg cs =>
    simp only [closedB] at h
    exact closedL_get h hc
  all_goals
    cases i with
    | zero => simp [PV.cells] at hc; subst hc; exact h
    | succ i => simp [PV.cells] at hc
theorem norm_closed {keep : Bool} {n : Nat} {p : PV} (h : closedB keep p = true) : norm keep H (n + 1) p = some p := by
  rw [norm, if_pos h]
theorem norm_cells {keep : Bool} {n : Nat} {p q : PV} (h : norm keep H n p = some q) : q.cells.length = p.cells.length ∧
    ∀ (i : Nat) c, p.cells[i]? = some c → ∃ d k, q.cells[i]? = some d ∧ k ≤ n ∧ norm keep H k c = some d := by
  cases n with
  | zero => simp [norm] at h
  | succ n =>
    by_cases hc : closedB keep p = true
    · rw [norm_closed hc] at h
      obtain rfl := Option.some.inj h
      exact ⟨rfl, fun i c hi => ⟨c, n + 1, hi, Nat.le_refl _, norm_closed (closed_cells hc hi)⟩⟩
    · have one : p.cells = [p] → q.cells = [q] → q.cells.length = p.cells.length ∧ ∀ (i : Nat) c, p.cells[i]? = some c → ∃ d k, q.cells[i]? = some d ∧ k ≤ n + 1 ∧ norm keep H k c = some d := by
        intro h1 h2
        rw [h1, h2]
        refine ⟨rfl, fun i c hi => ?_⟩
        cases i with
        | zero =>
          obtain rfl : p = c := by simpa using hi
          exact ⟨q, n + 1, rfl, Nat.le_refl _, h⟩
        | succ i => simp at hi
      have h' := h
      rw [norm, if_neg hc] at h'
      cases p <;> simp only [normStep, reduceCtorEq] at h'
      case agg cs =>
        obtain ⟨ds, hd, rfl⟩ := Option.map_eq_some_iff.1 h'
        obtain ⟨h1, h2⟩ := mapM_get hd
        exact ⟨h1, fun i c hi => by obtain ⟨d, hd, hn⟩ := h2 i c hi; exact ⟨d, n, hd, Nat.le_succ _, hn⟩⟩
      case list k xs => obtain ⟨ds, hd, rfl⟩ := Option.map_eq_some_iff.1 h'; exact one rfl rfl
      case arr l sz lo len =>
        split at h'
        · split at h'
          · obtain ⟨ds, hd, rfl⟩ := Option.map_eq_some_iff.1 h'; exact one rfl rfl
          · cases h'
        · cases h'
      case ref l sz i off =>
        split at h'
        · split at h'
          · obtain ⟨x, _, h'⟩ := Option.bind_eq_some_iff.1 h'
            obtain ⟨ds, hd, rfl⟩ := Option.map_eq_some_iff.1 h'; exact one rfl rfl
          · cases h'
        · cases h'
      case cptr cs => obtain ⟨ds, hd, rfl⟩ := Option.map_eq_some_iff.1 h'; exact one rfl rfl
      case fn f cs => obtain ⟨ds, hd, rfl⟩ := Option.map_eq_some_iff.1 h'; exact one rfl rfl
      case bfn f cs => obtain ⟨ds, hd, rfl⟩ := Option.map_eq_some_iff.1 h'; exact one rfl rfl
      case tup cs => obtain ⟨ds, hd, rfl⟩ := Option.map_eq_some_iff.1 h'; exact one rfl rfl
      case iface t v => obtain ⟨ds, hd, rfl⟩ := Option.map_eq_some_iff.1 h'; exact one rfl rfl
theorem flat_norm {keep : Bool} {n sz : Nat} {xs ys : List PV} (h : xs.mapM (norm keep H n) = some ys) (hsz : ∀ x ∈ xs, x.cells.length = sz) :
    (∀ y ∈ ys, y.cells.length = sz) ∧ (flat ys).length = (flat xs).length ∧ ∀ (i : Nat) d, (flat ys)[i]? = some d → ∃ c k, (flat xs)[i]? = some c ∧ k ≤ n ∧ norm keep H k c = some d := by
  have hy : ∀ y ∈ ys, y.cells.length = sz := by
    intro y hy
    obtain ⟨i, hi⟩ := List.mem_iff_getElem?.1 hy
    obtain ⟨x, hx, hn⟩ := mapM_back h hi
    rw [(norm_cells hn).1, hsz x (mem_of_get hx)]
  refine ⟨hy, by rw [flat_len hy, flat_len hsz, (mapM_get h).1], fun i d hd => ?_⟩
  obtain ⟨a, y, j, hya, hj, rfl, hdj⟩ := flat_split hy hd
  obtain ⟨x, hx, hn⟩ := mapM_back h hya
  obtain ⟨hl, hcells⟩ := norm_cells hn
  have hjx : j < x.cells.length := by rw [hsz x (mem_of_get hx)]; exact hj
  obtain ⟨d', k, hd', hk, hnk⟩ := hcells j _ (List.getElem?_eq_getElem hjx)
  rw [hdj] at hd'
  obtain rfl := Option.some.inj hd'
  exact ⟨_, k, by rw [flat_get hsz a x j hx hj]; exact List.getElem?_eq_getElem hjx, hk, hnk⟩
theorem norm_VR {keep : Bool} {Hr : Hp} {O' : Nat → Prop} (hH : HR w X H) (hsub : ∀ l c, Hr l = some c → H l = some c) (hO : ∀ b, b < w.heap.size → O' b → both X H b)
    (hfree : ∀ b c, Hr (.real b) = some c → ¬ O' b) : ∀ (n : Nat) (p q : PV) (v : Value), VR w (both X H) v p → norm keep Hr n p = some q → VR w O' v q := by
  intro n
  induction n using Nat.strongRecOn with
  | _ n ih =>
    intro p q v hv h
    cases n with
    | zero => simp [norm] at h
    | succ n =>
      by_cases hc : closedB keep p = true
      · rw [norm_closed hc] at h
        obtain rfl := Option.some.inj h
        exact hv.less hO
      · rw [norm, if_neg hc] at h
        have pw : ∀ {cs ds : List PV}, cs.mapM (norm keep Hr n) = some ds → ∀ {vs : Array Value}, vs.size = cs.length → (∀ (i : Nat) v p, vs[i]? = some v → cs[i]? = some p → VR w (both X H) v p) →
            vs.size = ds.length ∧ ∀ (i : Nat) v p, vs[i]? = some v → ds[i]? = some p → VR w O' v p := by
          intro cs ds hd vs hl hel
          refine ⟨by rw [hl, (mapM_get hd).1], fun i v p hv hp => ?_⟩
          obtain ⟨x, hx, hn⟩ := mapM_back hd hp
          exact ih n (Nat.lt_succ_self _) x p v (hel i v x hv hx) hn
        cases hv with
        | undef v => exact absurd rfl hc
        | bool b => exact absurd rfl hc
        | int k n => exact absurd rfl hc
        | str s => exact absurd rfl hc
        | nilp => exact absurd rfl hc
        | nilf => exact absurd rfl hc
        | nili => exact absurd rfl hc
        | nilm => exact absurd rfl hc
        | mapr b => simp only [normStep, reduceCtorEq] at h
        | tagp q b t n cs fr h1 h2 => simp only [normStep, reduceCtorEq] at h
        | tags b t n cap cs fr h1 h2 h3 h4 => simp only [normStep, reduceCtorEq] at h
        | list k xs a cap sz cs g1 g2 g3 g4 g5 g6 g7 =>
          simp only [normStep] at h
          obtain ⟨ys, hy, rfl⟩ := Option.map_eq_some_iff.1 h
          obtain ⟨h1, h2, h3⟩ := flat_norm hy g5
          have hl := (mapM_get hy).1
          rw [← hl]
          refine .list _ ys a cap sz cs (by omega) (fun e => g2 ?_) ⟨fun e => by rw [hl]; exact g3.1 (by split at e <;> first | exact e | cases e), fun e => g3.2.1 (by split at e <;> first | exact e | cases e), g3.2.2⟩ (by rw [h2]; exact g4) h1 (fun hne => ?_) (fun i v p hv hp => ?_)
          · split at e
            · exact e
            · cases e
          · obtain ⟨b, o, ha, hlt, hn, hr⟩ := g6 (by intro e; subst e; simp at hl; exact hne hl)
            exact ⟨b, o, ha, hlt, fun e => hn (hO b hlt e), hr⟩
          · obtain ⟨c, k', hc', hk', hn'⟩ := h3 i p hp
            exact ih k' (by omega) c p v (g7 i v c hv hc') hn'
        | arr0 l sz lo a =>
          simp only [normStep] at h
          split at h
          · split at h
            · obtain ⟨ys, hy, rfl⟩ := Option.map_eq_some_iff.1 h
              rw [List.take_zero] at hy
              obtain rfl : ys = [] := by simpa using hy.symm
              exact .list .any [] a 0 0 [] (Nat.le_refl _) (fun e => by cases e) ⟨nofun, nofun, fun _ => rfl⟩ rfl (fun x h => by cases h) (fun h => absurd rfl h) (fun i v p h => by simp at h)
            · cases h
          · cases h
        | arr b sz lo len cap cs0 t fr hcap hb0 hfit =>
          simp only [normStep] at h
          split at h
          · rename_i m sz' xs hm
            split at h
            · rename_i hh
              obtain ⟨rfl, hle⟩ := hh
              obtain ⟨ys, hy, rfl⟩ := Option.map_eq_some_iff.1 h
              obtain ⟨hsz, hX, cs, ty, hb, hcs, hel⟩ := hH _ _ _ _ (hsub _ _ hm)
              have hsz2 : ∀ x ∈ (xs.drop lo).take len, x.cells.length = sz := fun x hx => hsz x (List.mem_of_mem_drop (List.mem_of_mem_take hx))
              obtain ⟨h1, h2, h3⟩ := flat_norm hy hsz2
              have hl : ys.length = len := by rw [(mapM_get hy).1]; simp; omega
              have hflat : flat ((xs.drop lo).take len) = ((flat xs).drop (lo * sz)).take (len * sz) := by
                rw [flat_take (fun x hx => hsz x (List.mem_of_mem_drop hx)), flat_drop hsz]
              have hxl := flat_len hsz
              have hmul : lo * sz + len * sz ≤ xs.length * sz := by rw [← Nat.add_mul]; exact Nat.mul_le_mul_right _ hle
              have := VR.list (w := w) (O := O') .any ys (some ⟨b, lo * sz, none⟩) cap sz ((cs.toList.drop (lo * sz)).take (len * sz)) (by omega) (fun e => by cases e) ⟨nofun, nofun, nofun⟩
                (by rw [h2, hflat]; simp; omega) h1 (fun _ => ⟨b, lo * sz, rfl, lt_of_block hb, hfree b _ hm, fun j v hv => by
                  have hj : j < len * sz := by
                    have := (List.getElem?_eq_some_iff.1 hv).1
                    simp at this; omega
                  rw [List.getElem?_take_of_lt hj, List.getElem?_drop, Array.getElem?_toList] at hv
                  rw [cell_at hb]; exact hv⟩) (fun i v p hv hp => by
                  obtain ⟨c, k', hc', hk', hn'⟩ := h3 i p hp
                  rw [hflat] at hc'
                  have hi : i < len * sz := by
                    have := (List.getElem?_eq_some_iff.1 hv).1
                    simp at this; omega
                  rw [List.getElem?_take_of_lt hi, List.getElem?_drop] at hv hc'
                  exact ih k' (by omega) c p v (hel _ v c (by rwa [Array.getElem?_toList] at hv) hc') hn')
              rwa [hl] at this
            · cases h
          · cases h
        | ref b sz i off =>
          simp only [normStep] at h
          split at h
          · rename_i m sz' xs hm
            split at h
            · rename_i hh
              subst hh
              obtain ⟨x, hx, h⟩ := Option.bind_eq_some_iff.1 h
              obtain ⟨ds, hd, rfl⟩ := Option.map_eq_some_iff.1 h
              obtain ⟨hsz, hX, cs, ty, hb, hcs, hel⟩ := hH _ _ _ _ (hsub _ _ hm)
              have hxs := hsz x (mem_of_get hx)
              have hxl := flat_len hsz
              have hi : i < xs.length := (List.getElem?_eq_some_iff.1 hx).1
              have hmul : i * sz + sz ≤ xs.length * sz := by
                have := Nat.mul_le_mul_right sz (Nat.succ_le_of_lt hi)
                rwa [Nat.succ_mul] at this
              have hdl := (mapM_get hd).1
              refine .cptr b _ ds ((cs.toList.drop (i * sz + off)).take ds.length) (lt_of_block hb) (hfree b _ hm) (by rw [List.length_take, List.length_drop, Array.length_toList (xs := cs)]; rw [List.length_drop] at hdl; omega) (fun j v hv => ?_) (fun j v p hv hp => ?_)
              · have hj : j < ds.length := by
                  have := (List.getElem?_eq_some_iff.1 hv).1
                  simp at this; omega
                rw [List.getElem?_take_of_lt hj, List.getElem?_drop, Array.getElem?_toList] at hv
                rw [cell_at hb]; exact hv
              · obtain ⟨c, hc', hn'⟩ := mapM_back hd hp
                have hj : j < ds.length := (List.getElem?_eq_some_iff.1 hp).1
                rw [List.getElem?_take_of_lt hj, List.getElem?_drop, Array.getElem?_toList] at hv
                rw [List.getElem?_drop] at hc'
                have hoj : off + j < sz := by rw [← hxs]; exact (List.getElem?_eq_some_iff.1 hc').1
                refine ih n (Nat.lt_succ_self _) c p v (hel _ v c hv ?_) hn'
                rw [Nat.add_assoc, flat_get hsz i x (off + j) hx hoj]
                exact hc'
            · cases h
          · cases h
        | cptr b o ps cs hlt hn hl hmem hel =>
          simp only [normStep] at h
          obtain ⟨ds, hd, rfl⟩ := Option.map_eq_some_iff.1 h
          refine .cptr b o ds cs hlt (fun e => hn (hO b hlt e)) (by rw [hl, (mapM_get hd).1]) hmem (fun i v p hv hp => ?_)
          obtain ⟨x, hx, hn'⟩ := mapM_back hd hp
          exact ih n (Nat.lt_succ_self _) x p v (hel i v x hv hx) hn'
        | fn f ps vs hl hel =>
          simp only [normStep] at h
          obtain ⟨ds, hd, rfl⟩ := Option.map_eq_some_iff.1 h
          obtain ⟨h1, h2⟩ := pw hd hl hel
          exact .fn f ds vs h1 h2
        | bfn f ps vs hl hel =>
          simp only [normStep] at h
          obtain ⟨ds, hd, rfl⟩ := Option.map_eq_some_iff.1 h
          obtain ⟨h1, h2⟩ := pw hd hl hel
          exact .bfn f ds vs h1 h2
        | agg ps vs hl hel =>
          simp only [normStep] at h
          obtain ⟨ds, hd, rfl⟩ := Option.map_eq_some_iff.1 h
          obtain ⟨h1, h2⟩ := pw hd hl hel
          exact .agg ds vs h1 h2
        | tup ps vs hl hel =>
          simp only [normStep] at h
          obtain ⟨ds, hd, rfl⟩ := Option.map_eq_some_iff.1 h
          obtain ⟨h1, h2⟩ := pw hd hl hel
          exact .tup ds vs h1 h2
        | iface t v p hv =>
          simp only [normStep] at h
          obtain ⟨d, hd, rfl⟩ := Option.map_eq_some_iff.1 h
          exact .iface t v d (ih n (Nat.lt_succ_self _) p d v hv hd)
mutual
theorem scalar_VR {O O' : Nat → Prop} : ∀ (p : PV) (v : Value), scalarB p = true → VR w O v p → VR w O' v p
  | .undef, v, _, h => .undef v
  | .bool b, v, _, h => by rw [h.bool_inv]; exact .bool b
  | .int k n, v, _, h => by rw [h.int_inv]; exact .int k n
  | .str s, v, _, h => by rw [h.str_inv]; exact .str s
  | .nilp, v, _, h => by cases h; exact .nilp
  | .nilf, v, _, h => by cases h; exact .nilf
  | .nili, v, _, h => by cases h; exact .nili
  | .nilm, v, _, h => by cases h; exact .nilm
  | .agg cs, v, hs, h => by
    obtain ⟨vs, rfl, h1, h2⟩ := h.agg_inv
    simp only [scalarB] at hs
    exact .agg cs vs h1 (scalarL_VR cs vs hs h2)
  | .tup cs, v, hs, h => by
    obtain ⟨vs, rfl, h1, h2⟩ := h.tup_inv
    simp only [scalarB] at hs
    exact .tup cs vs h1 (scalarL_VR cs vs hs h2)
theorem scalarL_VR {O O' : Nat → Prop} : ∀ (cs : List PV) (vs : Array Value), scalarL cs = true → (∀ (i : Nat) v p, vs[i]? = some v → cs[i]? = some p → VR w O v p) → ∀ (i : Nat) v p, vs[i]? = some v → cs[i]? = some p → VR w O' v p
  | [], vs, _, h, i, v, p, hv, hp => by simp at hp
  | c :: cs, vs, hs, h, i, v, p, hv, hp => by
    simp only [scalarL, Bool.and_eq_true] at hs
    cases i with
    | zero =>
      obtain rfl : c = p := by simpa using hp
      exact scalar_VR c v hs.1 (h 0 v c hv rfl)
    | succ i =>
      refine scalarL_VR cs (vs.extract 1 vs.size) hs.2 (fun j u q hu hq => h (j + 1) u q ?_ (by simpa using hq)) i v p ?_ (by simpa using hp)
      · rw [Array.getElem?_extract] at hu
        split at hu
        · rw [Nat.add_comm]; exact hu
        · cases hu
      · have hlt : i + 1 < vs.size := (Array.getElem?_eq_some_iff.1 hv).1
        rw [Array.getElem?_extract, if_pos (by omega), Nat.add_comm]
        exact hv
end
theorem SR.frozen {γ : GP} {n : Nat} {w0 : World} {O0 : Nat → Prop} {s : St} {a : Act} (h : SR P γ n w0 O0 X s a w) (L : List Lab) : SR P γ n w0 O0 X { s with H := frz L s.H } a w := by
  have hown : ∀ b, own (frz L s.H) b → own s.H b := by
    rintro b ⟨sz, xs, e⟩
    unfold frz at e
    split at e
    · obtain ⟨c, hc, e⟩ := Option.map_eq_some_iff.1 e
      cases c
      simp [Chunk.frz] at e
    · exact ⟨sz, xs, e⟩
  have hO : ∀ b, both X (frz L s.H) b → both X s.H b := fun b hb => hb.imp id (hown b)
  refine ⟨h.size, h.defers, fun i => (h.env i).less (fun b _ => hO b), ?_, h.fr, fun b hb => h.new b (hown b hb), h.lt, h.gs.sub fun g c e => by
    have e : frz L s.H (.ghost g) = some c := e
    unfold frz at e
    split at e
    · obtain ⟨c0, h0, _⟩ := Option.map_eq_some_iff.1 e; exact ⟨c0, h0⟩
    · exact ⟨c, e⟩⟩
  intro l m sz xs hl
  have hl : frz L s.H l = some (.row m sz xs) := hl
  obtain ⟨m', hl'⟩ : ∃ m', s.H l = some (.row m' sz xs) := by
    unfold frz at hl
    split at hl
    · obtain ⟨c, hc, e⟩ := Option.map_eq_some_iff.1 hl
      cases c
      simp only [Chunk.frz, Chunk.row.injEq] at e
      obtain ⟨_, rfl, rfl⟩ := e
      exact ⟨_, hc⟩
    · exact ⟨m, hl⟩
  obtain ⟨h1, h2⟩ := h.heap l m' sz xs hl'
  refine ⟨h1, ?_⟩
  cases l with
  | real b =>
    obtain ⟨h3, cs, t, hb, h4, h5⟩ := h2
    exact ⟨h3, cs, t, hb, h4, fun i v p hv hp => (h5 i v p hv hp).less (fun b _ => hO b)⟩
  | ghost g => exact h2
theorem norms_VR {keep : Bool} {Hr : Hp} {O' : Nat → Prop} {n : Nat} {as as' : List PV} {vs : Array Value} (hH : HR w X H) (hsub : ∀ l c, Hr l = some c → H l = some c) (hO : ∀ b, b < w.heap.size → O' b → both X H b)
    (hfree : ∀ b c, Hr (.real b) = some c → ¬ O' b) (hv : VRs w (both X H) vs as) (h : as.mapM (norm keep Hr n) = some as') : VRs w O' vs as' := by
  refine ⟨by rw [hv.1, (mapM_get h).1], fun i v p hvi hp => ?_⟩
  obtain ⟨x, hx, hn⟩ := mapM_back h hp
  exact norm_VR hH hsub hO hfree n x p v (hv.2 i v x hvi hx) hn
theorem HR.freeInf {w : World} {X : Nat → Prop} {H : Hp} (h : HR w X H) : ∀ b, w.heap.size ≤ b → H (.real b) = none := by
  intro b hb
  cases e : H (.real b) with
  | none => rfl
  | some c =>
    obtain ⟨m, sz, xs⟩ := c
    obtain ⟨_, _, cs, t, hbk, _⟩ := h _ _ _ _ e
    have := lt_of_block hbk
    omega
theorem Gs.over {γ : GP} {H H' : Hp} (h : Gs ⟨γ.N, fun g => (H (.ghost g)).isSome = true⟩ H') (h0 : Gs γ H) : Gs γ H' :=
  ⟨fun g c e => (h.1 g c e).elim (fun e2 => let ⟨c2, e2⟩ := Option.isSome_iff_exists.1 e2; h0.1 g c2 e2) .inr, h.2⟩
def glue (H1 H H' : Hp) : Hp := fun l => match H' l with
  | some c => some c
  | none => if (H1 l).isSome then none else H l
theorem CallsG.frame {f : FuncId} {as : List PV} {H1 : Hp} {K K' : PV → Hp → Prop} (h : CallsG P f as H1 K) (hsub : ∀ l c, H1 l = some c → H l = some c)
    (hk : ∀ r H', K r H' → (∀ l sz xs, H l = some (.row true sz xs) → H1 l = none → H' l = none) →
      (∀ l sz xs, H' l = some (.row true sz xs) → (H1 l).isSome = true ∨ H l = none) → K' r (glue H1 H H')) : CallsG P f as H K' := by
  classical
  refine ⟨h.1, fun N w X vs hX hH hB hv => ?_⟩
  have hB1 : GB H1 := let ⟨B, h⟩ := hB; ⟨B, fun g hg => by
    cases e : H1 (.ghost g) with
    | none => rfl
    | some c => have := hsub _ _ e; rw [h g hg] at this; cases this⟩
  obtain ⟨B, hB⟩ := hB
  have hH1 : HR w X H1 := hH.sub hsub
  have hlt : ∀ b, own H b → b < w.heap.size := fun b hb => own_lt hH hb
  have hX1 : ∀ b, (X b ∨ (own H b ∧ ¬ own H1 b)) → b < w.heap.size := fun b hb => hb.elim (hX b) (fun e => hlt b e.1)
  have o1 : ∀ b, own H1 b → own H b := fun b ⟨sz, xs, e⟩ => ⟨sz, xs, hsub _ _ e⟩
  have hb1 : ∀ b, both X H b → both (fun b => X b ∨ (own H b ∧ ¬ own H1 b)) H1 b := fun b hb => by
    rcases hb with hb | hb
    · exact .inl (.inl hb)
    · by_cases e : own H1 b
      · exact .inr e
      · exact .inl (.inr ⟨hb, e⟩)
  have hb2 : ∀ b, both (fun b => X b ∨ (own H b ∧ ¬ own H1 b)) H1 b → both X H b := fun b hb => by
    rcases hb with (hb | hb) | hb
    · exact .inl hb
    · exact .inr hb.1
    · exact .inr (o1 b hb)
  have hHR1 : HR w (fun b => X b ∨ (own H b ∧ ¬ own H1 b)) H1 := by
    intro l m sz xs e
    obtain ⟨g1, g2⟩ := hH _ _ _ _ (hsub _ _ e)
    refine ⟨g1, ?_⟩
    cases l with
    | real b =>
      obtain ⟨g3, cs, t, g4, g5, g6⟩ := g2
      refine ⟨?_, cs, t, g4, g5, fun i v p hv hp => (g6 i v p hv hp).less (fun b _ hb => hb2 b hb)⟩
      rintro (hx | ⟨hx, hn⟩)
      · exact g3 hx
      · obtain ⟨sz', xs', e'⟩ := hx
        rw [hsub _ _ e] at e'
        obtain ⟨rfl, rfl, rfl⟩ : m = true ∧ sz = sz' ∧ xs = xs' := by simpa using e'
        exact hn ⟨_, _, e⟩
    | ghost g => exact g2
  refine (h.2 (max N B) w _ vs hX1 hHR1 hB1 ⟨hv.1, fun i v p hvi hp => (hv.2 i v p hvi hp).less (fun b _ hb => hb2 b hb)⟩).mono ?_
  rintro e w' ⟨v, r, H', rfl, hf, hH', hown, hr, hgs, hK⟩
  have hfree : ∀ l sz xs, H l = some (.row true sz xs) → H1 l = none → H' l = none := by
    intro l sz xs e e1
    cases l with
    | real b =>
      cases e' : H' (.real b) with
      | none => rfl
      | some c =>
        exfalso
        obtain ⟨m, sz', xs'⟩ := c
        obtain ⟨_, g, _⟩ := hH' _ _ _ _ e'
        exact g (.inr ⟨⟨sz, xs, e⟩, fun ⟨_, _, e2⟩ => by rw [e1] at e2; cases e2⟩)
    | ghost g =>
      cases e' : H' (.ghost g) with
      | none => rfl
      | some c =>
        exfalso
        rcases hgs.1 g c e' with h | h
        · simp [e1] at h
        · have h : max N B ≤ g := h
          rw [hB g (by omega)] at e; cases e
  have hfr : Fr w (own H) w' := hf.weaken (fun b _ hb => o1 b hb)
  -- what is owned then
  have og : ∀ b, own (glue H1 H H') b → own H' b ∨ (own H b ∧ ¬ own H1 b) := by
    rintro b ⟨sz, xs, e⟩
    unfold glue at e
    split at e
    · rename_i c hc
      obtain rfl := Option.some.inj e
      exact .inl ⟨sz, xs, hc⟩
    · split at e
      · cases e
      · rename_i hn
        exact .inr ⟨⟨sz, xs, e⟩, fun ⟨_, _, e2⟩ => hn (by rw [e2]; rfl)⟩
  have hg : ∀ b, both X (glue H1 H H') b → both (fun b => X b ∨ (own H b ∧ ¬ own H1 b)) H' b := fun b hb => by
    rcases hb with hb | hb
    · exact .inl (.inl hb)
    · rcases og b hb with hb | hb
      · exact .inr hb
      · exact .inl (.inr hb)
  refine ⟨v, r, glue H1 H H', rfl, hfr, ?_, fun b hb => ?_, hr.less (fun b _ hb => hg b hb), ?_, hk r H' hK hfree (fun l sz xs e => by
    cases l with
    | real b =>
      rcases hown b ⟨sz, xs, e⟩ with ⟨_, _, h'⟩ | h'
      · exact .inl (by rw [h']; rfl)
      · exact .inr (hH.freeInf b h')
    | ghost g =>
      rcases hgs.1 g _ e with h' | h'
      · exact .inl h'
      · have h' : max N B ≤ g := h'
        exact .inr (hB g (by omega)))⟩
  · intro l m sz xs e
    unfold glue at e
    split at e
    · rename_i c hc
      obtain rfl := Option.some.inj e
      obtain ⟨g1, g2⟩ := hH' _ _ _ _ hc
      refine ⟨g1, ?_⟩
      cases l with
      | real b =>
        obtain ⟨g3, cs, t, g4, g5, g6⟩ := g2
        exact ⟨fun hx => g3 (.inl hx), cs, t, g4, g5, fun i v p hv hp => (g6 i v p hv hp).less (fun b _ hb => hg b hb)⟩
      | ghost g => exact g2
    · rename_i hn
      split at e
      · cases e
      · rename_i hn1
        obtain ⟨g1, g2⟩ := hH _ _ _ _ e
        refine ⟨g1, ?_⟩
        cases l with
        | real b =>
          obtain ⟨g3, cs, t, g4, g5, g6⟩ := g2
          have hno : ¬ own H1 b := fun ⟨_, _, e2⟩ => hn1 (by rw [e2]; rfl)
          refine ⟨g3, cs, t, (hf.block b (lt_of_block g4) hno).trans g4, g5, fun i v p hv hp => ?_⟩
          refine (g6 i v p hv hp).mono (fun x hx hn' => hf.block x hx (fun e' => hn' (hb2 x (.inr e')))) (fun x hx hb => ?_) (fun b cs t fr e => by obtain ⟨cs', fr', e', hs⟩ := hf.shape b cs t fr e; exact ⟨cs', fr', e', hs⟩)
          rcases hg x hb with (hb | hb) | hb
          · exact .inl hb
          · exact .inr hb.1
          · rcases hown x hb with h' | h'
            · exact .inr (o1 x h')
            · omega
        | ghost g => exact g2
  · rcases og b hb with hb | hb
    · rcases hown b hb with h' | h'
      · exact .inl (o1 b h')
      · exact .inr h'
    · exact .inl hb.1
  · obtain ⟨B', hB'⟩ := hgs.2
    refine ⟨fun g c e => ?_, max B B', fun g hg => ?_⟩
    · unfold glue at e
      split at e
      · rename_i c' hc
        rcases hgs.1 g c' hc with h' | h'
        · obtain ⟨c1, e1⟩ := Option.isSome_iff_exists.1 h'
          exact .inl (by show (H (.ghost g)).isSome = true; rw [hsub _ _ e1]; rfl)
        · exact .inr (Nat.le_trans (Nat.le_max_left _ _) h')
      · split at e
        · cases e
        · exact .inl (by show (H (.ghost g)).isSome = true; rw [e]; rfl)
    · unfold glue
      rw [hB' g (by omega)]
      simp only
      split
      · rfl
      · exact hB g (by omega)
def FreeInf (H : Hp) : Prop := ∃ N, ∀ b, N ≤ b → H (.real b) = none
theorem CallsG.mono' {f : FuncId} {as : List PV} {H : Hp} {K K' : PV → Hp → Prop} (h : CallsG P f as H K) (hk : ∀ v H', K v H' → FreeInf H' → K' v H') : CallsG P f as H K' :=
  ⟨h.1, fun N w X vs h1 h2 h0 h3 => (h.2 N w X vs h1 h2 h0 h3).mono fun e w' ⟨v, r, H', he, g1, g2, g3, g4, gg, g5⟩ => ⟨v, r, H', he, g1, g2, g3, g4, gg, hk _ _ g5 ⟨_, g2.freeInf⟩⟩⟩
theorem CallsG.forget {f : FuncId} {as : List PV} {H : Hp} {K K' : PV → Hp → Prop} (h : CallsG P f as H K) (hk : ∀ v H', K v H' → ∃ H2, (∀ l c, H2 l = some c → H' l = some c) ∧ K' v H2) : CallsG P f as H K' :=
  ⟨h.1, fun N w X vs h1 h2 h0 h3 => (h.2 N w X vs h1 h2 h0 h3).mono fun e w' ⟨v, r, H', he, g1, g2, g3, g4, gg, g5⟩ => by
    obtain ⟨H2, hs, hK⟩ := hk _ _ g5
    have ho : ∀ b, own H2 b → own H' b := fun b ⟨sz, xs, e⟩ => ⟨sz, xs, hs _ _ e⟩
    exact ⟨v, r, H2, he, g1, g2.sub hs, fun b hb => g3 b (ho b hb), g4.less (fun b _ hb => hb.imp id (ho b)), gg.sub fun g c e => ⟨c, hs _ _ e⟩, hK⟩⟩
theorem CallN.among {f : FuncId} {as : List PV} {sz : Nat} {xs : List PV} (h : CallN P f as sz xs) (H : Hp) {K : PV → Hp → Prop} (hk : ∀ l, H l = none → K (.arr l sz 0 xs.length) (upd H l (some (.row true sz xs)))) : CallsG P f as H K := by
  have h1 : CallsG P f as (fun _ => none) fun r H' => ∃ l, r = .arr l sz 0 xs.length ∧ H' = upd (fun _ => none) l (some (.row true sz xs)) :=
    CallsG.forget h (by
      rintro v H' ⟨l, rfl, hl⟩
      refine ⟨_, fun l' c e => ?_, l, rfl, rfl⟩
      simp only [upd_apply] at e
      split at e
      · rename_i e'; subst e'; rw [hl]; exact e
      · cases e)
  refine h1.frame (fun l c e => by cases e) ?_
  rintro r H' ⟨l, rfl, rfl⟩ hf hn
  have h0 : H l = none := by
    rcases hn l sz xs (by simp) with e | e
    · cases e
    · exact e
  have e : glue (fun _ => none) H (upd (fun _ => none) l (some (.row true sz xs))) = upd H l (some (.row true sz xs)) := by
    funext l'
    simp only [glue, upd_apply]
    by_cases e : l' = l <;> simp [e]
  rw [e]
  exact hk l h0
theorem call_run {γ : GP} {n : Nat} {w0 : World} {O0 : Nat → Prop} {s : St} {a : Act} {f : FuncId} {as : List PV} {vs : Array Value} {K : PV → Hp → Prop} (h : SR P γ n w0 O0 X s a w) (hv : VRs w (both X s.H) vs as) (hc : CallOK P f as s.H K) :
    callable P f = true ∧ Calls P f vs w fun e w' => ∃ v r H', e = .returned v ∧ K r H' ∧ SR P γ n w0 O0 X { s with H := H' } a w' ∧ VR w' (both X H') v r := by
  rcases hc with ⟨keep, m, as', r, hn, hs, hp, hK⟩ | ⟨keep, m, L, as', r, hn, hp, hK⟩ | hG
  · obtain ⟨hcall, hp⟩ := hp
    refine ⟨hcall, (hp w (fun _ => False) vs (fun _ h => h.elim) (norms_VR h.heap (fun _ _ h => h) (fun _ _ h => h.elim) (fun _ _ _ h => h) hv hn)).mono ?_⟩
    rintro e w' ⟨v, rfl, hb, hr⟩
    exact ⟨v, r, s.H, rfl, hK, h.keep (Fr.of_below hb _), scalar_VR r v hs hr⟩
  · obtain ⟨hcall, hp⟩ := hp
    have hown : ∀ b, own (frz L s.H) b → own s.H b ∧ Lab.real b ∉ L := by
      rintro b ⟨sz, xs, e⟩
      unfold frz at e
      split at e
      · obtain ⟨c, hc, e⟩ := Option.map_eq_some_iff.1 e
        cases c
        simp [Chunk.frz] at e
      · rename_i hnot
        exact ⟨⟨sz, xs, e⟩, hnot⟩
    have hs' := h.frozen L
    refine ⟨hcall, (hp w (both X (frz L s.H)) vs (fun b hb => hb.elim (h.lt b) (own_lt hs'.heap)) (norms_VR h.heap (fun l c hl => ?_) (fun b _ hb => hb.imp id (fun e => (hown b e).1)) (fun b c hb hO => ?_) hv hn)).mono ?_⟩
    · unfold restr at hl
      split at hl
      · exact hl
      · cases hl
    · unfold restr at hb
      split at hb
      · rename_i hin
        rcases hO with hX | ho
        · obtain ⟨m', sz, xs⟩ := c
          exact (h.heap _ _ _ _ hb).2.1 hX
        · exact (hown b ho).2 hin
      · cases hb
    · rintro e w' ⟨v, rfl, hb, hr⟩
      exact ⟨v, r, _, rfl, hK, hs'.keep (Fr.of_below hb _), hr⟩
  · obtain ⟨hcall, hp⟩ := hG
    refine ⟨hcall, (hp γ.N w X vs h.lt h.heap h.gs.2 hv).mono ?_⟩
    rintro e w' ⟨v, r, H', rfl, hf, hH', hown, hr, hgs, hK⟩
    refine ⟨v, r, H', rfl, hK, ⟨h.size, h.defers, fun i => ?_, hH', h.fr.trans hf (fun b hb ho => ?_), fun b hb => ?_, fun b hb => Nat.lt_of_lt_of_le (h.lt b hb) hf.size, hgs.over h.gs⟩, hr⟩
    · exact (h.env i).mono (fun b hb hn => hf.block b hb (fun e => hn (.inr e))) (fun b hb ho => ho.imp id (fun e => (hown b e).resolve_right (by omega)))
        (fun b cs t fr e => by obtain ⟨cs', fr', e', hs⟩ := hf.shape b cs t fr e; exact ⟨cs', fr', e', hs⟩)
    · rcases h.new b ho with h' | h'
      · exact h'
      · omega
    · rcases hown b hb with h' | h'
      · exact h.new b h'
      · exact .inr (Nat.le_trans h.fr.size h')
end
end Go.Proofs.Ythdgdngdfijfhaa
namespace Go.Proofs.Ythdgdngdfijfhaa
open Go.RowKit
set_option linter.unusedVariables false
set_option linter.unusedSimpArgs false
section
variable {P : Program} {X0 : Nat → Prop}
theorem getD_some {a : Act} {d : Nat} {v : Value} (h : a.tmps.getD d undef = v) (hv : v ≠ undef) : a.tmps[d]? = some v := by
  rw [Array.getD_eq_getD_getElem?] at h
  cases e : a.tmps[d]? with
  | none => rw [e] at h; exact absurd h.symm hv
  | some u => rw [e] at h; rw [← h]; rfl
theorem enter_run {w : World} {a : Act} {o : Oper} {g : Operand} {args : Array Operand} {ts : Array TypeId} {f : FuncId} {caps : Array Value} (ho : o.op = .call ⟨.value g, args, ts⟩) (hg : a.eval g = .func (.func f) #[] caps)
    (hc : callable P f = true) : (execOp a.eval o).run P w = .ok (.enter f (args.map a.eval ++ caps)) w := by
  unfold callable at hc
  split at hc
  · rename_i fn hf
    simp only [Bool.and_eq_true, bne_iff_ne, ne_eq] at hc
    have hn : (fn.name == "runtime.NumGoroutine") = false := by simpa using hc.1
    have hb : fn.body.isNone = false := by
      cases e : fn.body with
      | none => rw [e] at hc; simp at hc
      | some b => rfl
    unfold execOp
    rw [ho]
    have hb2 : ¬ fn.body = none := by intro e; rw [e] at hb; cases hb
    simp only [resolve, hg, Deferred.ofValue, pure_bind, invoke, callFunc]
    simp [hf, hb2, hc.1]
  · cases hc
theorem enter_runB {w : World} {a : Act} {o : Oper} {g : Operand} {args : Array Operand} {ts : Array TypeId} {f : FuncId} {fs : Array Value} (ho : o.op = .call ⟨.value g, args, ts⟩) (hg : a.eval g = .func (.func f) fs #[])
    (hc : callable P f = true) : (execOp a.eval o).run P w = .ok (.enter f (fs ++ args.map a.eval)) w := by
  unfold callable at hc
  split at hc
  · rename_i fn hf
    simp only [Bool.and_eq_true, bne_iff_ne, ne_eq] at hc
    have hn : (fn.name == "runtime.NumGoroutine") = false := by simpa using hc.1
    have hb : fn.body.isNone = false := by
      cases e : fn.body with
      | none => rw [e] at hc; simp at hc
      | some b => rfl
    unfold execOp
    rw [ho]
    have hb2 : ¬ fn.body = none := by intro e; rw [e] at hb; cases hb
    simp only [resolve, hg, Deferred.ofValue, pure_bind, invoke, callFunc]
    simp [hf, hb2, hc.1]
  · cases hc
theorem pvBytes_get : ∀ (ys : List PV) (l : List UInt8), pvBytes ys = some l → l.length = ys.length ∧ ∀ (j : Nat) (hj : j < l.length), ys[j]? = some (.int .u8 (l[j].toNat : Int))
  | [], l, h => by
    simp only [pvBytes, Option.some.injEq] at h
    subst h
    exact ⟨rfl, fun j hj => absurd hj (Nat.not_lt_zero _)⟩
  | y :: ys, l, h => by
    unfold pvBytes at h
    split at h
    · rename_i e; cases e
    · rename_i n xs e
      obtain ⟨rfl, rfl⟩ : y = .int .u8 n ∧ ys = xs := by simpa using e
      split at h
      · rename_i hn
        obtain ⟨r, hr, rfl⟩ := Option.map_eq_some_iff.1 h
        obtain ⟨h1, h2⟩ := pvBytes_get ys r hr
        refine ⟨by simp [h1], fun j hj => ?_⟩
        cases j with
        | zero =>
          simp only [List.getElem?_cons_zero, List.getElem_cons_zero, Option.some.injEq, PV.int.injEq, true_and]
          have hlt : n.toNat < UInt8.size := by have : UInt8.size = 256 := rfl; omega
          rw [UInt8.toNat_ofNat_of_lt' hlt]
          omega
        | succ j =>
          simp only [List.getElem?_cons_succ, List.getElem_cons_succ]
          exact h2 j (by simpa using hj)
      · cases h
    · cases h
theorem bytes_run {w : World} {X : Nat → Prop} {H : Hp} {v : Value} {p : PV} {ys : List PV} {l : List UInt8} {src dst e : TypeId} (hs : P.underlying src = some (.slice e)) (he : P.underlying e = some (.int .u8)) (hd : P.underlying dst = some .string)
    (hH : HR w X H) (hv : VR w (both X H) v p) (hp : ∀ t, p ≠ .str t) (hi : itemsOf H p = some ys) (hb : pvBytes ys = some l) : (convert src dst v).run P w = .ok (.string ⟨l.toArray⟩) w := by
  obtain ⟨hll, hget⟩ := pvBytes_get ys l hb
  have flat1 : ∀ xs : List PV, (∀ x ∈ xs, x.cells.length = 1) → (∀ x ∈ xs, ∃ n, x = .int .u8 n) → flat xs = xs := fun xs _ h => flat_cells xs fun x hx => by obtain ⟨n, rfl⟩ := h x hx; rfl
  have hint : ∀ y ∈ ys, ∃ n, y = .int .u8 n := fun y hy => by
    obtain ⟨j, hj⟩ := List.mem_iff_getElem?.1 hy
    have hjl : j < ys.length := (List.getElem?_eq_some_iff.1 hj).1
    have := hget j (by omega)
    rw [hj] at this
    exact ⟨_, Option.some.inj this⟩
  cases hv <;> simp only [itemsOf, reduceCtorEq, Option.some.injEq] at hi
  case str t => exact absurd rfl (hp t)
  case list k xs a cap sz cs g1 g2 g3 g4 g5 g6 g7 =>
    subst hi
    rw [← hll]
    by_cases hne : xs = []
    · obtain rfl : l = [] := List.eq_nil_of_length_eq_zero (by rw [hll, hne]; rfl)
      cases a with
      | none => exact Lib.run_convert_nil_bytes w src dst e cap hs he hd
      | some a => exact run_convert_bytes_back w src dst e a cap [] hs he hd (fun j hj => absurd hj (Nat.not_lt_zero _))
    · obtain ⟨b, o, rfl, _, _, hr⟩ := g6 hne
      have hf : flat xs = xs := flat_cells xs fun x hx => by obtain ⟨n, rfl⟩ := hint x hx; rfl
      refine run_convert_bytes_back w src dst e _ cap l hs he hd (fun j hj => ?_)
      have hjc : j < cs.length := by rw [g4, hf]; omega
      have h1 := hr j cs[j] (List.getElem?_eq_getElem hjc)
      have h2 := g7 j cs[j] _ (List.getElem?_eq_getElem hjc) (by rw [hf]; exact hget j hj)
      rw [h2.int_inv] at h1
      rw [Addr.add_mid]
      exact h1
  case arr0 lb sz lo a =>
    obtain ⟨xs, hx, hi⟩ := Option.bind_eq_some_iff.1 hi
    split at hi
    · obtain rfl := Option.some.inj hi
      rw [List.take_zero] at hll hb
      obtain rfl : l = [] := List.eq_nil_of_length_eq_zero hll
      cases a with
      | none => exact Lib.run_convert_nil_bytes w src dst e 0 hs he hd
      | some a => exact run_convert_bytes_back w src dst e a 0 [] hs he hd (fun j hj => absurd hj (Nat.not_lt_zero _))
    · cases hi
  case arr b sz lo len cap cs t fr hcap hbk hfit =>
    obtain ⟨xs, hx, hi⟩ := Option.bind_eq_some_iff.1 hi
    obtain ⟨m, hrow⟩ := row_of (X := X) hx
    obtain ⟨h1, hX, cs', t', hbk', hle, hel⟩ := hH _ _ _ _ hrow
    rw [hbk] at hbk'
    obtain ⟨rfl, rfl, _⟩ : cs = cs' ∧ t = t' ∧ fr = (0, 0) := by simpa using hbk'
    split at hi
    · rename_i hlen
      obtain rfl := Option.some.inj hi
      have hyl : ((xs.drop lo).take len).length = len := by simp; omega
      rw [hyl] at hll
      rw [← hll]
      refine run_convert_bytes_back w src dst e _ cap l hs he hd (fun j hj => ?_)
      have hy := hget j hj
      rw [List.getElem?_take_of_lt (by omega), List.getElem?_drop] at hy
      have hsz : sz = 1 := by have := h1 _ (List.mem_of_getElem? hy); exact this.symm
      subst hsz
      have hf : (flat xs)[lo + j]? = some (.int .u8 (l[j].toNat : Int)) := by
        have := flat_get h1 (lo + j) _ 0 hy (by decide)
        simpa [PV.cells] using this
      have hfl : lo + j < (flat xs).length := (List.getElem?_eq_some_iff.1 hf).1
      have hjc : lo + j < cs.size := by omega
      have h2 := hel (lo + j) cs[lo + j] _ (Array.getElem?_eq_getElem hjc) hf
      have h3 : w.cell? ⟨b, lo + j, none⟩ = cs[lo + j]? := cell_at hbk
      rw [Array.getElem?_eq_getElem hjc, h2.int_inv] at h3
      rw [Addr.add_mid, Nat.mul_one]
      exact h3
    · cases hi
theorem convS_run {w : World} {X : Nat → Prop} {s : St} {a : Act} {o : Oper} {p : PV} (hH : HR w X s.H) (hev : ∀ x, VR w (both X s.H) (a.eval x) (evo s x)) (h : convS P s o.op = some p) :
    ∃ v, (execOp a.eval o).run P w = .ok (.value v) w ∧ VR w (both X s.H) v p := by
  unfold convS at h
  split at h
  · rename_i sr ds x ho
    have hx0 : execOp a.eval o = (do pure (.value (← convert sr ds (a.eval x)))) := by unfold execOp; rw [ho]
    split at h
    · rename_i e hs hd
      split at h
      · rename_i he
        split at h
        · cases h
        · rename_i hns
          obtain ⟨ys, hys, h⟩ := Option.bind_eq_some_iff.1 h
          obtain ⟨l, hl, rfl⟩ := Option.map_eq_some_iff.1 h
          have := bytes_run hs he hd hH (hev x) hns hys hl
          exact ⟨_, by rw [hx0]; simp [this], .str l⟩
      · cases h
    · rename_i k hs hd
      split at h
      · rename_i k' n hx
        split at h
        · rename_i hn
          obtain rfl := Option.some.inj h
          have hv := hev x
          rw [hx] at hv
          have hr := run_convert_int_string (P := P) w sr ds k' n (by rw [hs]; rfl) hd
          have he : Utf8.encode n = ⟨[UInt8.ofNat n.toNat].toArray⟩ := by
            have hv : Utf8.valid n = true := by unfold Utf8.valid; simp; omega
            unfold Utf8.encode
            rw [if_pos hv, if_pos (by omega)]
          rw [he] at hr
          exact ⟨_, by rw [hx0, hv.int_inv]; simp [hr], .str _⟩
        · cases h
      · cases h
    · cases h
  · cases h
theorem VRs.append {w : World} {O : Nat → Prop} {vs us : Array Value} {ps qs : List PV} (h : VRs w O vs ps) (k : VRs w O us qs) : VRs w O (vs ++ us) (ps ++ qs) := by
  refine ⟨by simp [h.1, k.1], fun i v p hv hp => ?_⟩
  rcases Nat.lt_or_ge i vs.size with h1 | h1
  · rw [Array.getElem?_append_left h1] at hv
    rw [List.getElem?_append_left (by rw [← h.1]; exact h1)] at hp
    exact h.2 i v p hv hp
  · rw [Array.getElem?_append_right h1] at hv
    rw [List.getElem?_append_right (by rw [← h.1]; exact h1), ← h.1] at hp
    exact k.2 _ v p hv hp
theorem top_wp {γ : GP} {n : Nat} {w0 w : World} {O0 : Nat → Prop} {s : St} {a : Act} {o : Oper} {K : St → Prop} {Q : Exit → Act → World → Prop} {N : Act → World → Prop} (h : SR P γ n w0 O0 X0 s a w) (hd : ∀ t, o.dst = some t → t < n)
    (hk : Top P o s K) (hN : ∀ s a w, SR P γ n w0 O0 X0 s a w → K s → N a w) : o.wp P a w N Q := by
  unfold Oper.wp
  unfold Top at hk
  split at hk
  · rename_i g args ts ho
    split at hk
    · rename_i f caps hg
      have hvg := h.ev g
      rw [hg] at hvg
      obtain ⟨vs, hvs, hcaps⟩ := hvg.fn_inv
      obtain ⟨hcall, hrun⟩ := call_run h ((VRs.of_map (fun x => h.ev x) args).append hcaps) hk
      rw [enter_run ho hvs hcall, Oper.upon_enter]
      refine hrun.mono ?_
      rintro e w' ⟨v, r, H', rfl, hK, hs, hr⟩
      exact hN _ _ _ (hs.put o.dst hd (Fr.refl _ _) hr) hK
    · rename_i f fs hg
      have hvg := h.ev g
      rw [hg] at hvg
      obtain ⟨vs, hvs, hfs⟩ := hvg.bfn_inv
      obtain ⟨hcall, hrun⟩ := call_run h (VRs.append hfs (VRs.of_map (fun x => h.ev x) args)) hk
      rw [enter_runB ho hvs hcall, Oper.upon_enter]
      refine hrun.mono ?_
      rintro e w' ⟨v, r, H', rfl, hK, hs, hr⟩
      exact hN _ _ _ (hs.put o.dst hd (Fr.refl _ _) hr) hK
    · exact hk.elim
  · split at hk
    · obtain ⟨v, w', p, H', hrun, hK, hs, hr⟩ := eff_run h (full := true) hk
      rcases hrun with hrun | ⟨hrun, rfl⟩
      · rw [hrun, Oper.upon_value]
        exact hN _ _ _ (hs.put o.dst hd (Fr.refl _ _) hr) hK
      · rw [hrun, Oper.upon_skip]
        exact hN _ _ _ (hs.put o.dst hd (Fr.refl _ _) hr) hK
    · obtain ⟨v, hv | hv, hK⟩ := hk
      rotate_right
      · obtain ⟨u, hrun, hr⟩ := convS_run h.heap (fun x => h.ev x) hv
        rw [hrun, Oper.upon_value]
        exact hN _ _ _ (h.put o.dst hd (Fr.refl _ _) hr) hK
      obtain ⟨u, w', hrun, hf, hr⟩ := opVal_run h.lt h.heap (fun x => h.ev x) hv
      rw [hrun, Oper.upon_value]
      exact hN _ _ _ (h.put o.dst hd hf hr) hK
theorem mapM_mono {α β : Type} {f g : α → Option β} (h : ∀ x y, f x = some y → g x = some y) : ∀ {xs : List α} {ys : List β}, xs.mapM f = some ys → xs.mapM g = some ys
  | [], ys, e => by simpa using e
  | x :: xs, ys, e => by
    simp only [List.mapM_cons, Option.bind_eq_bind, Option.pure_def] at e ⊢
    obtain ⟨y, hy, e⟩ := Option.bind_eq_some_iff.1 e
    obtain ⟨zs, hz, e⟩ := Option.bind_eq_some_iff.1 e
    rw [h x y hy, Option.bind_some, mapM_mono h hz, Option.bind_some]
    exact e
theorem norm_mono {keep : Bool} {Hr H : Hp} (hsub : ∀ l c, Hr l = some c → H l = some c) : ∀ (n : Nat) (p q : PV), norm keep Hr n p = some q → norm keep H n p = some q := by
  intro n
  induction n with
  | zero => intro p q h; simp [norm] at h
  | succ n ih =>
    intro p q h
    rw [norm] at h ⊢
    split at h
    · rename_i hc; rw [if_pos hc]; exact h
    · rename_i hc
      rw [if_neg hc]
      have mm := fun (xs ys : List PV) (e : xs.mapM (norm keep Hr n) = some ys) => mapM_mono ih e
      cases p <;> simp only [normStep, reduceCtorEq] at h ⊢
      case list k xs => obtain ⟨ys, hy, rfl⟩ := Option.map_eq_some_iff.1 h; rw [mm _ _ hy]; rfl
      case arr l sz lo len =>
        cases hl : Hr l with
        | none => simp [hl] at h
        | some c =>
          rw [hl] at h
          rw [hsub _ _ hl]
          cases c
          simp only at h ⊢
          split at h
          · rename_i hh; rw [if_pos hh]; obtain ⟨ys, hy, rfl⟩ := Option.map_eq_some_iff.1 h; rw [mm _ _ hy]; rfl
          · cases h
      case ref l sz i off =>
        cases hl : Hr l with
        | none => simp [hl] at h
        | some c =>
          rw [hl] at h
          rw [hsub _ _ hl]
          cases c
          simp only at h ⊢
          split at h
          · rename_i hh; rw [if_pos hh]
            obtain ⟨x, hx, h⟩ := Option.bind_eq_some_iff.1 h
            rw [hx, Option.bind_some]
            obtain ⟨ys, hy, rfl⟩ := Option.map_eq_some_iff.1 h; rw [mm _ _ hy]; rfl
          · cases h
      case cptr cs => obtain ⟨ys, hy, rfl⟩ := Option.map_eq_some_iff.1 h; rw [mm _ _ hy]; rfl
      case fn f cs => obtain ⟨ys, hy, rfl⟩ := Option.map_eq_some_iff.1 h; rw [mm _ _ hy]; rfl
      case bfn f cs => obtain ⟨ys, hy, rfl⟩ := Option.map_eq_some_iff.1 h; rw [mm _ _ hy]; rfl
      case agg cs => obtain ⟨ys, hy, rfl⟩ := Option.map_eq_some_iff.1 h; rw [mm _ _ hy]; rfl
      case tup cs => obtain ⟨ys, hy, rfl⟩ := Option.map_eq_some_iff.1 h; rw [mm _ _ hy]; rfl
      case iface t v => obtain ⟨y, hy, rfl⟩ := Option.map_eq_some_iff.1 h; rw [ih _ _ hy]; rfl
theorem rowOf_mono {Hr H : Hp} (hsub : ∀ l c, Hr l = some c → H l = some c) {l : Lab} {sz : Nat} {xs : List PV} (h : rowOf Hr l sz = some xs) : rowOf H l sz = some xs := by
  unfold rowOf at h ⊢
  cases hl : Hr l with
  | none => simp [hl] at h
  | some c => rw [hl] at h; rw [hsub _ _ hl]; exact h
theorem opVal_mono {Hr : Hp} {s : St} (hsub : ∀ l c, Hr l = some c → s.H l = some c) {op : Op} {v : PV} (h : opVal P { s with H := Hr } op = some v) : opVal P s op = some v := by
  cases op
  case load t x =>
    simp only [opVal] at h ⊢
    have he : evo { s with H := Hr } x = evo s x := by cases x <;> rfl
    rw [he] at h
    generalize evo s x = px at h ⊢
    cases px <;> simp only [reduceCtorEq] at h ⊢
    · obtain ⟨xs, hx, h⟩ := Option.bind_eq_some_iff.1 h
      rw [rowOf_mono hsub hx]
      exact h
    · exact h
  case makeFunc fn f c => cases fn <;> exact h
  case call c =>
    obtain ⟨callee, args, ts⟩ := c
    cases callee with
    | value g => exact h
    | invoke r m => exact h
    | builtin b => cases b <;> exact h
  all_goals exact h
theorem itemsOf_mono {Hr H : Hp} (hsub : ∀ l c, Hr l = some c → H l = some c) {p : PV} {ys : List PV} (h : itemsOf Hr p = some ys) : itemsOf H p = some ys := by
  cases p <;> try exact h
  case arr l sz lo len =>
    simp only [itemsOf] at h ⊢
    obtain ⟨xs, hx, h⟩ := Option.bind_eq_some_iff.1 h
    rw [rowOf_mono hsub hx]
    exact h
theorem restr_nil (H : Hp) : restr [] H = fun _ => none := by funext l; simp [restr]
theorem frz_nil (H : Hp) : frz [] H = H := by funext l; simp [frz]
theorem TopQ.top {o : Oper} {Hr : Hp} {s : St} {K : St → Prop} (hsub : ∀ l c, Hr l = some c → s.H l = some c) (h : TopQ P o Hr s K) : Top P o s K := by
  unfold TopQ at h
  unfold Top
  split at h
  · rename_i g args ts ho
    simp only [ho]
    split at h
    · rename_i f caps hg
      simp only [hg]
      rcases h with (⟨keep, n, as', r, hn, hs, hp, hK⟩ | ⟨keep, n, as', r, hn, hp, hK⟩) | ⟨sz, xs, hN, hK⟩
      rotate_right
      · exact .inr (.inr (hN.among s.H hK))
      · exact .inl ⟨keep, n, as', r, mapM_mono (norm_mono hsub n) hn, hs, hp, hK⟩
      · refine .inr (.inl ⟨keep, n, [], as', r, by rw [restr_nil] at hn ⊢; exact hn, hp, ?_⟩)
        rw [frz_nil]
        exact hK
    · exact h.elim
  · rename_i t ho
    simp only [ho, isEff, if_true]
    obtain ⟨z, h1, h2, h3⟩ := h
    exact ⟨z, h1, h2, fun l _ hl => .inl (h3 l hl)⟩
  · rename_i t x ho
    simp only [ho, isEff, if_true]
    exact ⟨h.1, .inr h.2⟩
  · rename_i args ts ho
    simp only [ho, isEff, if_true]
    obtain ⟨t0, t1, x, y, e, rfl, rfl, hu, hsrc, ys, hys, hcells, hz, h1, h2, ⟨k, xs, hx, hk, hxs, hroom, hK⟩ | ⟨l, len, xs, hx, hHr, hrow, hle, hroom, hK⟩⟩ := h
    rotate_right
    · refine ⟨t0, t1, x, y, e, rfl, rfl, hu, hsrc, ys, itemsOf_mono hsub hys, hcells, hz, h1, h2, ?_⟩
      simp only [hx]
      exact ⟨trivial, trivial, trivial, hroom, xs, hrow, hle, hK l (.inr rfl), fun l' hl' => .inl (hK l' (.inl hl'))⟩
    refine ⟨t0, t1, x, y, e, rfl, rfl, hu, hsrc, ys, itemsOf_mono hsub hys, hcells, hz, h1, h2, ?_⟩
    simp only [hx]
    refine ⟨hk, hxs, hroom, ?_⟩
    split at hK
    · rename_i hy; rw [if_pos hy]; exact hK
    · rename_i hy; rw [if_neg hy]; exact hK
  · rename_i h1 h2 h3 h4
    obtain ⟨hE, v, hv, hK⟩ := h
    split
    · rename_i g args ts ho; exact absurd ho (h1 _ _ _)
    · rw [hE]
      exact ⟨v, .inl (opVal_mono hsub hv), hK⟩
theorem guard_mono {ops : Array Oper} {o : Oper} {s : St} {Y N Y' N' : Prop} (h : Tguard ops o s Y N) (hy : Y → Y') (hn : N → N') : Tguard ops o s Y' N' := by
  unfold Tguard at h ⊢
  split at h
  · exact hy h
  · split at h
    · split at h
      · split at h
        · rename_i hb; rw [if_pos hb]; exact hy h
        · rename_i hb; rw [if_neg hb]; exact hn h
      · exact hn h
      · exact h
    · exact h
theorem guard_wp {γ : GP} {n : Nat} {w0 w : World} {O0 : Nat → Prop} {s : St} {a : Act} {ops : Array Oper} {o : Oper} {Y N : Prop} (h : SR P γ n w0 O0 X0 s a w) (hg : Tguard ops o s Y N) :
    (Region.wanted o (yielded ops a.tmps) = true ∧ Y) ∨ (Region.wanted o (yielded ops a.tmps) = false ∧ N) := by
  unfold Tguard at hg
  unfold Region.wanted
  split at hg
  · rename_i e; exact .inl ⟨by rw [e], hg⟩
  · rename_i j want e
    rw [e]
    split at hg
    · rename_i d hd
      have hv := h.env d
      split at hg
      · rename_i b hb
        rw [hb] at hv
        have ht := getD_some hv.bool_inv (by intro e; cases e)
        have hy : yielded ops a.tmps j = some b := by simp [yielded, hd, ht]
        split at hg
        · rename_i hbw; subst hbw; exact .inl ⟨by simp [hy], hg⟩
        · rename_i hbw; exact .inr ⟨by simp [hy, hbw], hg⟩
      · rename_i hb
        rw [hb] at hv
        obtain ⟨vs, hvs, hl, _⟩ := hv.tup_inv
        obtain rfl : vs = #[] := Array.eq_empty_of_size_eq_zero hl
        refine .inr ⟨?_, hg⟩
        have hy : yielded ops a.tmps j = none := by
          unfold yielded
          rw [hd, Option.bind_some]
          rw [Array.getD_eq_getD_getElem?] at hvs
          cases e' : a.tmps[d]? with
          | none => rfl
          | some u => rw [e'] at hvs; simp only [Option.getD_some] at hvs; rw [hvs]
        simp [hy]
      · exact hg.elim
    · exact hg.elim
theorem skip_SR {γ : GP} {n : Nat} {w0 w : World} {O0 : Nat → Prop} {s : St} {a : Act} {o : Oper} (h : SR P γ n w0 O0 X0 s a w) (hd : ∀ t, o.dst = some t → t < n) : SR P γ n w0 O0 X0 (s.put o.dst (.tup [])) (a.put o.dst undef) w :=
  h.put o.dst hd (Fr.refl _ _) (.tup [] #[] rfl (fun i v p hv hp => by simp at hp))
theorem tops_wp {γ : GP} {n : Nat} {w0 : World} {O0 : Nat → Prop} {ops : Array Oper} {Q : Exit → Act → World → Prop} {K : St → Prop} (hN : ∀ s a w, SR P γ n w0 O0 X0 s a w → K s → Q .normal a w) :
    ∀ (l : List Oper) (s : St) (a : Act) (w : World), (∀ o ∈ l, ∀ t, o.dst = some t → t < n) → SR P γ n w0 O0 X0 s a w → Tops P ops l s K → wpList P ops Q l a w
  | [], s, a, w, _, h, hk => hN s a w h hk
  | o :: rest, s, a, w, hd, h, hk => by
    have ih := tops_wp (ops := ops) hN rest
    have hdo := hd o List.mem_cons_self
    have hdr : ∀ o ∈ rest, ∀ t, o.dst = some t → t < n := fun o ho => hd o (List.mem_cons_of_mem _ ho)
    unfold wpList
    rcases guard_wp h hk with ⟨hw, hk⟩ | ⟨hw, hk⟩
    · rw [if_pos hw]
      exact .inl (top_wp h hdo hk (fun s a w hs hK => ih s a w hdr hs hK))
    · rw [if_neg (by rw [hw]; simp)]
      exact ih _ _ _ hdr (skip_SR h hdo) hk
end
end Go.Proofs.Ythdgdngdfijfhaa
namespace Go.Proofs.Ythdgdngdfijfhaa
open Go.RowKit
set_option linter.unusedVariables false
set_option linter.unusedSimpArgs false
section
variable {z : Bool} {P : Program} {X0 : Nat → Prop}
theorem evo_put {s : St} {d : Option Tmp} {v : PV} {x : Operand} (h : ∀ t, d = some t → x ≠ .tmp t) : evo (s.put d v) x = evo s x := by
  cases d with
  | none => rfl
  | some t =>
    cases x with
    | tmp u =>
      have : u ≠ t := fun e => h t rfl (by rw [e])
      simp [evo, St.put, upd_apply, this]
    | _ => rfl
theorem put_comm {s : St} {d e : Option Tmp} {v u : PV} (h : ∀ t, d = some t → e ≠ some t) : (s.put d v).put e u = (s.put e u).put d v := by
  cases d with
  | none => rfl
  | some a =>
    cases e with
    | none => rfl
    | some b =>
      have hab : a ≠ b := fun e => h a rfl (by rw [e])
      simp only [St.put, St.mk.injEq, and_true]
      funext x
      simp only [upd_apply]
      split <;> split <;> simp_all
theorem upd_comm {H : Hp} {l k : Lab} {c d : Option Chunk} (h : l ≠ k) : upd (upd H l c) k d = upd (upd H k d) l c := by
  funext x
  simp only [upd_apply]
  split <;> split <;> simp_all
theorem put_H {s : St} {d : Option Tmp} {v : PV} (H : Hp) : ({ s with H := H } : St).put d v = { s.put d v with H := H } := by cases d <;> rfl
theorem put_H' {s : St} {d : Option Tmp} {v : PV} : (s.put d v).H = s.H := by cases d <;> rfl
def appLab (o : Oper) (s : St) : Option Lab :=
  match o.op with
  | .call { callee := .builtin .append, args := args, .. } => match args[0]? with
    | some x => match evo s x with
      | .arr l _ _ _ => some l
      | _ => none
    | none => none
  | _ => none
theorem appLab_congr {o : Oper} {s s' : St} (he : ∀ x ∈ o.op.operands, evo s' x = evo s x) : appLab o s' = appLab o s := by
  unfold appLab
  split
  · rename_i args ts ho
    rw [ho] at he
    cases h0 : args[0]? with
    | none => rfl
    | some x => simp only; rw [he x (by simp [Op.operands, Call.operands]; exact Array.mem_of_getElem? h0)]
  · rfl
theorem appLab_isApp {o : Oper} {s : St} (h : isApp o = false) : appLab o s = none := by
  unfold isApp at h
  unfold appLab
  split
  · rename_i ho; rw [ho] at h; cases h
  · rfl
def need (m : Option (Lab × Nat × List PV)) (H : Hp) : Prop := ∀ q, m = some q → H q.1 = some (.row true q.2.1 q.2.2)
def okl (m : Option (Lab × Nat × List PV)) (H : Hp) (l : Lab) : Prop := H l = none ∨ m.map (·.1) = some l
theorem need_none (H : Hp) : need none H := fun q e => by cases e
inductive QS (P : Program) (Hr : Hp) (s : St) (o : Oper) (K : St → Prop) : Prop where
  | val (v : PV) (ha : appLab o s = none) (hv : ∀ s' : St, (∀ x ∈ o.op.operands, evo s' x = evo s x) → ∀ K' : St → Prop, K' (s'.put o.dst v) → TopQ P o Hr s' K') (hK : K (s.put o.dst v))
  | new (mk : Lab → PV) (c : Chunk) (m : Option (Lab × Nat × List PV)) (hm : makes o = true ∨ userCall o = true) (ha : appLab o s = m.map (·.1)) (hHr : ∀ q, m = some q → Hr q.1 = none) (hn : need m s.H)
      (hv : ∀ s' : St, (∀ x ∈ o.op.operands, evo s' x = evo s x) → need m s'.H → ∀ K' : St → Prop, (∀ l, okl m s'.H l → K' ({ s' with H := upd s'.H l (some c) }.put o.dst (mk l))) → TopQ P o Hr s' K')
      (hK : ∀ l, okl m s.H l → K ({ s with H := upd s.H l (some c) }.put o.dst (mk l)))
theorem opVal_congr {s s' : St} {Hr : Hp} {op : Op} {v : PV} (hE : isEff op = false) (hno : ∀ g args ts, op ≠ .call ⟨.value g, args, ts⟩) (he : ∀ x ∈ op.operands, evo s' x = evo s x)
    (h : opVal P { s with H := Hr } op = some v) : opVal P { s' with H := Hr } op = some v := by
  have e1 : ∀ x, evo { s with H := Hr } x = evo s x := fun x => by cases x <;> rfl
  have e2 : ∀ x, evo { s' with H := Hr } x = evo s' x := fun x => by cases x <;> rfl
  rw [← h]
  cases op <;> simp only [Op.operands] at he <;> (try rfl)
  case move x => simp only [opVal, e1, e2, he x (by simp)]
  case assign x => simp only [opVal, e1, e2, he x (by simp)]
  case pick c x y => simp only [opVal, e1, e2, he c (by simp), he x (by simp), he y (by simp)]
  case binOp op t x y yt => simp only [opVal, e1, e2, he x (by simp), he y (by simp)]
  case unOp op t x => simp only [opVal, e1, e2, he x (by simp)]
  case convert t u x => simp only [opVal, e1, e2, he x (by simp)]
  case extract x i => simp only [opVal, e1, e2, he x (by simp)]
  case field t x f => simp only [opVal, e1, e2, he x (by simp)]
  case makeFunc fn fst caps =>
    cases fn <;> try rfl
    have hm : caps.toList.map (evo { s' with H := Hr }) = caps.toList.map (evo { s with H := Hr }) := List.map_congr_left fun x hx => by rw [e1, e2]; exact he x (by simp at hx ⊢; exact .inr hx)
    have hm2 : fst.toList.map (evo { s' with H := Hr }) = fst.toList.map (evo { s with H := Hr }) := List.map_congr_left fun x hx => by rw [e1, e2]; exact he x (by simp at hx ⊢; exact .inl hx)
    simp only [opVal, hm, hm2]
  case fieldAddr t x f => simp only [opVal, e1, e2, he x (by simp)]
  case indexAddr t x i => simp only [opVal, e1, e2, he x (by simp), he i (by simp)]
  case load t x => simp only [opVal, e1, e2, he x (by simp)]
  case nilCheck x => simp only [opVal, e1, e2, he x (by simp)]
  case index t x i => simp only [opVal, e1, e2, he x (by simp), he i (by simp)]
  case makeInterface t x => simp only [opVal, e1, e2, he x (by simp)]
  case build t ps =>
    have hm : (ps.toList.map fun q => (q.1, evo { s' with H := Hr } q.2)) = ps.toList.map fun q => (q.1, evo { s with H := Hr } q.2) := List.map_congr_left fun q hq => by
      rw [e1, e2, he q.2 (by simp; exact ⟨q.1, by simpa using hq⟩)]
    simp only [opVal, hm]
  case buildSlice t n ps =>
    have hm : (ps.toList.map fun q => evo { s' with H := Hr } q.2) = ps.toList.map fun q => evo { s with H := Hr } q.2 := List.map_congr_left fun q hq => by
      rw [e1, e2, he q.2 (by simp; exact ⟨q.1, by simpa using hq⟩)]
    simp only [opVal, hm]
  case slice t x lo hi mx =>
    have hb : ∀ (y : Option Operand) d, (∀ z, y = some z → evo s' z = evo s z) → boundOf { s' with H := Hr } d y = boundOf { s with H := Hr } d y := by
      intro y d hy
      cases y with
      | none => rfl
      | some z => simp only [boundOf, e1, e2, hy z rfl]
    have hlo : ∀ d, boundOf { s' with H := Hr } d lo = boundOf { s with H := Hr } d lo := fun d => hb lo d (fun z hz => he z (by subst hz; simp))
    have hhi : ∀ d, boundOf { s' with H := Hr } d hi = boundOf { s with H := Hr } d hi := fun d => hb hi d (fun z hz => he z (by subst hz; simp))
    have hx := he x (by simp)
    cases mx with
    | none => simp only [opVal, pvSlice, e1, e2, hx, hlo, hhi]
    | some m =>
      have hm := he m (by simp)
      simp only [opVal, pvSlice, e1, e2, hx, hlo, hhi, hm]
  case call c =>
    obtain ⟨callee, args, ts⟩ := c
    cases callee with
    | value g => exact absurd rfl (hno g args ts)
    | invoke r m => rfl
    | builtin b =>
      have hm : args.toList.map (evo { s' with H := Hr }) = args.toList.map (evo { s with H := Hr }) := List.map_congr_left fun x hx => by rw [e1, e2]; exact he x (by simp [Call.operands]; simpa using hx)
      cases b <;> try rfl
      case len =>
        simp only [opVal]
        cases h0 : args[0]? with
        | none => cases ts[0]? <;> rfl
        | some x =>
          have hx := he x (by simp [Call.operands]; exact Array.mem_of_getElem? h0)
          cases ts[0]? with
          | none => rfl
          | some t => simp only [e1, e2, hx]
      case max => simp only [opVal, hm]
      case min => simp only [opVal, hm]
theorem okl_none {H : Hp} {l : Lab} (h : okl none H l) : H l = none := h.elim id (fun e => by cases e)
theorem TopQ.qs {Hr : Hp} {s : St} {o : Oper} {K : St → Prop} (h : TopQ P o Hr s K) : QS P Hr s o K := by
  have h0 := h
  unfold TopQ at h
  split at h
  · rename_i g args ts ho
    have hal : appLab o s = none := by unfold appLab; rw [ho]
    split at h
    · rename_i f caps hg
      have hre : ∀ r, (∀ K' : PV → Prop, K' r → CallQ P f (args.toList.map (evo s) ++ caps) Hr K') → K (s.put o.dst r) → QS P Hr s o K := by
        intro r hc hK
        refine .val r hal (fun s' he K' hK' => ?_) hK
        unfold TopQ
        rw [ho] at he
        have hg' : evo s' g = .fn f caps := by rw [he g (by simp [Op.operands, Call.operands]), hg]
        have hm : args.toList.map (evo s') = args.toList.map (evo s) := List.map_congr_left fun x hx => he x (by simp [Op.operands, Call.operands]; exact .inr (by simpa using hx))
        simp only [ho, hg', hm]
        exact .inl (hc _ hK')
      rcases h with (⟨keep, n, as', r, hn, hs, hp, hK⟩ | ⟨keep, n, as', r, hn, hp, hK⟩) | ⟨sz, xs, hN, hK⟩
      rotate_right
      · refine .new (fun l => .arr l sz 0 xs.length) (.row true sz xs) none (.inr (by simp [userCall, ho])) hal (fun q e => by cases e) (need_none _) (fun s' he _ K' hK' => ?_) (fun l hl => hK l (okl_none hl))
        unfold TopQ
        rw [ho] at he
        have hg' : evo s' g = .fn f caps := by rw [he g (by simp [Op.operands, Call.operands]), hg]
        have hm : args.toList.map (evo s') = args.toList.map (evo s) := List.map_congr_left fun x hx => he x (by simp [Op.operands, Call.operands]; exact .inr (by simpa using hx))
        simp only [ho, hg', hm]
        exact .inr ⟨sz, xs, hN, fun l hl => hK' l (.inl hl)⟩
      · exact hre r (fun K' hk => .inl ⟨keep, n, as', r, hn, hs, hp, hk⟩) hK
      · exact hre r (fun K' hk => .inr ⟨keep, n, as', r, hn, hp, hk⟩) hK
    · exact h.elim
  · rename_i t ho
    obtain ⟨z, hz, hd, hK⟩ := h
    refine .new (fun l => .ref l z.cells.length 0 0) (.row true z.cells.length [z]) none (.inl (by simp [makes, ho])) (by unfold appLab; rw [ho]; rfl) (fun q e => by cases e) (need_none _) (fun s' he _ K' hK' => ?_) (fun l hl => hK l (okl_none hl))
    unfold TopQ
    simp only [ho]
    exact ⟨z, hz, hd, fun l hl => hK' l (.inl hl)⟩
  · rename_i t x ho
    obtain ⟨hd, hK⟩ := h
    refine .new (fun l => .ref l (evo s x).cells.length 0 0) (.row true (evo s x).cells.length [evo s x]) none (.inl (by simp [makes, ho])) (by unfold appLab; rw [ho]; rfl) (fun q e => by cases e) (need_none _) (fun s' he _ K' hK' => ?_) (fun l hl => hK l (okl_none hl))
    unfold TopQ
    rw [ho] at he
    have hx := he x (by simp [Op.operands])
    simp only [ho, hx]
    exact ⟨hd, fun l hl => hK' l (.inl hl)⟩
  · rename_i args ts ho
    obtain ⟨t0, t1, x, y, e, rfl, rfl, hu, hsrc, ys, hys, hcells, hz, h1, h2, ⟨k, xs, hx, hk, hxs, hroom, hK⟩ | ⟨l0, len, xs, hx, hHr, hrow, hle, hroom, hK⟩⟩ := h
    · have hal : appLab o s = none := by unfold appLab; rw [ho]; simp [hx]
      have re : ∀ s' : St, (∀ x ∈ o.op.operands, evo s' x = evo s x) → ∀ K' : St → Prop, (if ys = [] then K' (s'.put o.dst (.list k xs)) else
            ∀ l, s'.H l = none → K' ({ s' with H := upd s'.H l (some (.row true (P.cellsOf e) (xs ++ ys))) }.put o.dst (.arr l (P.cellsOf e) 0 (xs.length + ys.length)))) → TopQ P o Hr s' K' := by
        intro s' he K' hK'
        rw [ho] at he
        unfold TopQ
        simp only [ho]
        refine ⟨t0, t1, x, y, e, rfl, rfl, hu, hsrc, ys, by rw [he y (by simp [Op.operands, Call.operands])]; exact hys, hcells, hz, h1, h2, .inl ⟨k, xs, by rw [he x (by simp [Op.operands, Call.operands])]; exact hx, hk, hxs, hroom, hK'⟩⟩
      by_cases hy : ys = []
      · rw [if_pos hy] at hK
        exact .val (.list k xs) hal (fun s' he K' hK' => re s' he K' (by rw [if_pos hy]; exact hK')) hK
      · rw [if_neg hy] at hK
        exact .new (fun l => .arr l (P.cellsOf e) 0 (xs.length + ys.length)) (.row true (P.cellsOf e) (xs ++ ys)) none (.inl (by simp [makes, ho])) hal (fun q e => by cases e) (need_none _) (fun s' he _ K' hK' => re s' he K' (by rw [if_neg hy]; exact fun l hl => hK' l (.inl hl))) (fun l hl => hK l (okl_none hl))
    · have hal : appLab o s = some l0 := by unfold appLab; rw [ho]; simp [hx]
      refine .new (fun l => .arr l (P.cellsOf e) 0 (len + ys.length)) (.row true (P.cellsOf e) (xs.take len ++ ys)) (some (l0, P.cellsOf e, xs)) (.inl (by simp [makes, ho])) hal (fun q e => by cases e; exact hHr) (fun q e => by cases e; exact ownRow_of hrow) (fun s' he hn K' hK' => ?_) (fun l hl => hK l (hl.imp id fun e => by simpa using e.symm))
      rw [ho] at he
      unfold TopQ
      simp only [ho]
      have hr' := hn _ rfl
      refine ⟨t0, t1, x, y, e, rfl, rfl, hu, hsrc, ys, by rw [he y (by simp [Op.operands, Call.operands])]; exact hys, hcells, hz, h1, h2, .inr ⟨l0, len, xs, by rw [he x (by simp [Op.operands, Call.operands])]; exact hx, hHr, by simp only at hr'; simp [ownRow, hr'], hle, hroom, fun l hl => hK' l (hl.imp id fun e => by simp [e])⟩⟩
  · rename_i h1 h2 h3 h4
    obtain ⟨hE, v, hv, hK⟩ := h
    have hal : appLab o s = none := by
      unfold appLab
      split
      · rename_i args ts ho; exact absurd ho (h4 _ _)
      · rfl
    refine .val v hal (fun s' he K' hK' => ?_) hK
    have hv' := opVal_congr hE h1 he hv
    unfold TopQ
    split
    · rename_i g args ts ho; exact absurd ho (h1 _ _ _)
    · rename_i t ho; exact absurd ho (h2 _)
    · rename_i t x ho; exact absurd ho (h3 _ _)
    · rename_i args ts ho; exact absurd ho (h4 _ _)
    · exact ⟨hE, v, hv', hK'⟩
def Step (P : Program) (ops : Array Oper) (Hr : Hp) (o : Oper) (s : St) (K : St → Prop) : Prop :=
  Tguard ops o s (TopQ P o Hr s K) (K (s.put o.dst (.tup [])))
theorem looks_of {ops : Array Oper} {o : Oper} {d : Tmp} (h : d ∉ o.looksAt ops) : (∀ x ∈ o.op.operands, x ≠ .tmp d) ∧ ∀ j want, o.guard = some (j, want) → (ops[j]?).bind (·.dst) ≠ some d := by
  unfold Oper.looksAt at h
  simp only [List.mem_append, not_or, List.mem_filterMap, not_exists, not_and] at h
  refine ⟨fun x hx e => ?_, fun j want hg e => ?_⟩
  · subst e
    exact h.1 (.tmp d) (by simpa using hx) rfl
  · have h2 := h.2
    rw [hg] at h2
    simp [e] at h2
theorem guard_put {ops : Array Oper} {o : Oper} {s : St} {d : Option Tmp} {v : PV} {Y N : Prop} (hd : ∀ t, d = some t → t ∉ o.looksAt ops) : Tguard ops o (s.put d v) Y N ↔ Tguard ops o s Y N := by
  unfold Tguard
  cases hg : o.guard with
  | none => exact Iff.rfl
  | some q =>
    obtain ⟨j, want⟩ := q
    simp only
    cases e : (ops[j]?).bind (·.dst) with
    | none => exact Iff.rfl
    | some t =>
      have : (s.put d v).env t = s.env t := by
        cases d with
        | none => rfl
        | some u =>
          have hne : t ≠ u := fun e' => (looks_of (hd u rfl)).2 j want hg (by rw [e, e'])
          simp [St.put, upd_apply, hne]
      simp only [this]
theorem guard_H {ops : Array Oper} {o : Oper} {s : St} {H : Hp} {Y N : Prop} : Tguard ops o { s with H := H } Y N ↔ Tguard ops o s Y N := Iff.rfl
theorem guard_excl {ops : Array Oper} {o : Oper} {s : St} (h1 : ∀ Y N : Prop, Y → Tguard ops o s Y N) (h2 : ∀ Y N : Prop, N → Tguard ops o s Y N) : False := by
  have h1 := h1 True False trivial
  have h2 := h2 False True trivial
  revert h1 h2
  unfold Tguard
  split
  · exact fun _ h => h
  · split
    · split
      · split
        · exact fun _ h => h
        · exact fun h _ => h
      · exact fun h _ => h
      · exact fun h _ => h
    · exact fun h _ => h
theorem step_cases {ops : Array Oper} {Hr : Hp} {o : Oper} {s : St} {K : St → Prop} (h : Step P ops Hr o s K) :
    (∃ v, (appLab o s = none ∨ ∀ Y N : Prop, N → Tguard ops o s Y N) ∧ (∀ s' : St, (∀ x ∈ o.op.operands, evo s' x = evo s x) → (∀ Y N, Tguard ops o s' Y N ↔ Tguard ops o s Y N) → ∀ K' : St → Prop, K' (s'.put o.dst v) → Step P ops Hr o s' K') ∧ K (s.put o.dst v)) ∨
    (∃ (mk : Lab → PV) (c : Chunk) (m : Option (Lab × Nat × List PV)), (makes o = true ∨ userCall o = true) ∧ appLab o s = m.map (·.1) ∧ (∀ q, m = some q → Hr q.1 = none) ∧ need m s.H ∧ (∀ Y N : Prop, Y → Tguard ops o s Y N) ∧
      (∀ s' : St, (∀ x ∈ o.op.operands, evo s' x = evo s x) → (∀ Y N, Tguard ops o s' Y N ↔ Tguard ops o s Y N) → need m s'.H → ∀ K' : St → Prop, (∀ l, okl m s'.H l → K' ({ s' with H := upd s'.H l (some c) }.put o.dst (mk l))) → Step P ops Hr o s' K') ∧
      ∀ l, okl m s.H l → K ({ s with H := upd s.H l (some c) }.put o.dst (mk l))) := by
  unfold Step at h
  by_cases hY : ∀ Y N : Prop, Y → Tguard ops o s Y N
  · -- it runs, or nothing of the guard is known
    by_cases hN : ∀ Y N : Prop, N → Tguard ops o s Y N
    · exact (guard_excl hY hN).elim
    · have hq : TopQ P o Hr s K := by
        apply Classical.byContradiction
        intro hq
        apply hN
        intro Y N hn
        exact guard_mono h (fun e => absurd e hq) (fun _ => hn)
      rcases hq.qs with ⟨v, ha, hv, hK⟩ | ⟨mk, c, m, hm, ha, hHr, hn, hv, hK⟩
      · exact .inl ⟨v, .inl ha, fun s' he hg K' hK' => (hg _ _).2 (hY _ _ (hv s' he K' hK')), hK⟩
      · exact .inr ⟨mk, c, m, hm, ha, hHr, hn, hY, fun s' he hg hn' K' hK' => (hg _ _).2 (hY _ _ (hv s' he hn' K' hK')), hK⟩
  · have hn : K (s.put o.dst (.tup [])) := by
      apply Classical.byContradiction
      intro hn
      apply hY
      intro Y N hy
      exact guard_mono h (fun _ => hy) (fun e => absurd e hn)
    have hN : ∀ Y N : Prop, N → Tguard ops o s Y N := by
      revert h hY
      unfold Tguard
      split
      · intro h hY; exact absurd (fun Y N hy => hy) hY
      · split
        · split
          · split
            · intro h hY; exact absurd (fun Y N hy => hy) hY
            · exact fun _ _ Y N h => h
          · exact fun _ _ Y N h => h
          · exact fun h _ => h.elim
        · exact fun h _ => h.elim
    exact .inl ⟨.tup [], .inr hN, fun s' he hg K' hK' => (hg _ _).2 (hN _ _ hK'), hn⟩
theorem Step.mono {ops : Array Oper} {Hr : Hp} {o : Oper} {s : St} {K K' : St → Prop} (h : Step P ops Hr o s K) (hk : ∀ s, K s → K' s) : Step P ops Hr o s K' := by
  rcases step_cases h with ⟨v, _, hv, hK⟩ | ⟨mk, c, m, hm, ha, hHr, hn, _, hv, hK⟩
  · exact hv s (fun _ _ => rfl) (fun _ _ => Iff.rfl) K' (hk _ hK)
  · exact hv s (fun _ _ => rfl) (fun _ _ => Iff.rfl) hn K' (fun l hl => hk _ (hK l hl))
theorem apart_specs {ops : Array Oper} {x y : Oper} (h : x.apart ops y = true) : (∀ d, x.dst = some d → d ∉ y.looksAt ops) ∧ (∀ d, x.dst = some d → y.dst ≠ some d) ∧ (∀ d, y.dst = some d → d ∉ x.looksAt ops) := Oper.apart_spec h
theorem evo_H {s : St} {H : Hp} (x : Operand) : evo { s with H := H } x = evo s x := by cases x <;> rfl
theorem TopQ.both {Hr : Hp} {s : St} {o : Oper} {K K' : St → Prop} (hc : userCall o = false) (h : TopQ P o Hr s K) (h' : TopQ P o Hr s K') : TopQ P o Hr s fun s => K s ∧ K' s := by
  unfold TopQ at h h' ⊢
  split at h
  · rename_i g args ts ho
    simp [userCall, ho] at hc
  · rename_i t ho
    simp only [ho] at h' ⊢
    obtain ⟨z, hz, hd, hK⟩ := h
    obtain ⟨z', hz', _, hK'⟩ := h'
    rw [hz] at hz'
    obtain rfl := Option.some.inj hz'
    exact ⟨z, hz, hd, fun l hl => ⟨hK l hl, hK' l hl⟩⟩
  · rename_i t x ho
    simp only [ho] at h' ⊢
    exact ⟨h.1, fun l hl => ⟨h.2 l hl, h'.2 l hl⟩⟩
  · rename_i args ts ho
    simp only [ho] at h' ⊢
    obtain ⟨t0, t1, x, y, e, rfl, rfl, hu, hsrc, ys, hys, hcells, hz, h1, h2, hd⟩ := h
    obtain ⟨t0', t1', x', y', e', et, ea, hu', hsrc', ys', hys', _, _, _, _, hd'⟩ := h'
    obtain ⟨rfl, rfl⟩ : t0 = t0' ∧ t1 = t1' := by simpa using et
    obtain ⟨rfl, rfl⟩ : x = x' ∧ y = y' := by simpa using ea
    rw [hu] at hu'
    obtain rfl : e = e' := by simpa using hu'
    rw [hys] at hys'
    obtain rfl := Option.some.inj hys'
    refine ⟨t0, t1, x, y, e, rfl, rfl, hu, hsrc, ys, hys, hcells, hz, h1, h2, ?_⟩
    rcases hd with ⟨k, xs, hx, hk, hxs, hroom, hK⟩ | ⟨l0, len, xs, hx, hHr, hrow, hle, hroom, hK⟩
    · rcases hd' with ⟨k', xs', hx', _, _, _, hK'⟩ | ⟨l0', len', xs', hx', _⟩
      · rw [hx] at hx'
        obtain ⟨rfl, rfl⟩ : k = k' ∧ xs = xs' := by simpa using hx'
        refine .inl ⟨k, xs, hx, hk, hxs, hroom, ?_⟩
        split
        · rename_i hy; rw [if_pos hy] at hK hK'; exact ⟨hK, hK'⟩
        · rename_i hy; rw [if_neg hy] at hK hK'; exact fun l hl => ⟨hK l hl, hK' l hl⟩
      · rw [hx] at hx'; cases hx'
    · rcases hd' with ⟨k', xs', hx', _, _, _, hK'⟩ | ⟨l0', len', xs', hx', _, hrow', _, _, hK'⟩
      · rw [hx] at hx'; cases hx'
      · rw [hx] at hx'
        obtain ⟨rfl, rfl⟩ : l0 = l0' ∧ len = len' := by simpa using hx'
        rw [hrow] at hrow'
        obtain rfl := Option.some.inj hrow'
        exact .inr ⟨l0, len, xs, hx, hHr, hrow, hle, hroom, fun l hl => ⟨hK l hl, hK' l hl⟩⟩
  · rename_i h1 h2 h3 h4
    obtain ⟨hE, v, hv, hK⟩ := h
    split at h'
    · rename_i g args ts ho; exact absurd ho (h1 _ _ _)
    · rename_i t ho; exact absurd ho (h2 _)
    · rename_i t x ho; exact absurd ho (h3 _ _)
    · rename_i args ts ho; exact absurd ho (h4 _ _)
    · obtain ⟨_, v', hv', hK'⟩ := h'
      rw [hv] at hv'
      obtain rfl := Option.some.inj hv'
      exact ⟨hE, v, hv, hK, hK'⟩
theorem guard_both {ops : Array Oper} {o : Oper} {s : St} {Y N Y' N' : Prop} : Tguard ops o s Y N → Tguard ops o s Y' N' → Tguard ops o s (Y ∧ Y') (N ∧ N') := by
  unfold Tguard
  split
  · exact fun a b => ⟨a, b⟩
  · split
    · split
      · split
        · exact fun a b => ⟨a, b⟩
        · exact fun a b => ⟨a, b⟩
      · exact fun a b => ⟨a, b⟩
      · exact fun a _ => a
    · exact fun a _ => a
theorem Step.both {ops : Array Oper} {Hr : Hp} {s : St} {o : Oper} {K K' : St → Prop} (hc : userCall o = false) (h : Step P ops Hr o s K) (h' : Step P ops Hr o s K') : Step P ops Hr o s fun s => K s ∧ K' s := by
  exact guard_mono (guard_both h h') (fun e => e.1.both hc e.2) (fun e => e)
theorem FreeInf.upd {H : Hp} (h : FreeInf H) (l : Lab) (c : Option Chunk) : FreeInf (upd H l c) := by
  obtain ⟨N, hN⟩ := h
  cases l with
  | real n => exact ⟨max N (n + 1), fun b hb => by rw [upd_ne _ _ (by intro e; cases e; omega)]; exact hN b (by omega)⟩
  | ghost n => exact ⟨N, fun b hb => by rw [upd_ne _ _ (by simp)]; exact hN b hb⟩
theorem okl_put {m : Option (Lab × Nat × List PV)} {s : St} {d : Option Tmp} {v : PV} {l : Lab} : okl m (s.put d v).H l ↔ okl m s.H l := by rw [put_H']
theorem need_upd {m : Option (Lab × Nat × List PV)} {H : Hp} {l : Lab} {c : Option Chunk} (h : ∀ q, m = some q → q.1 ≠ l) : need m (upd H l c) ↔ need m H := by
  constructor
  · intro hn q e; have := hn q e; rwa [upd_ne _ _ (h q e)] at this
  · intro hn q e; rw [upd_ne _ _ (h q e)]; exact hn q e
theorem Step.swap {ops : Array Oper} {Hr : Hp} {x y : Oper} {s : St} {K : St → Prop} (hap : x.apart ops y = true) (hmk : (makes x = false ∧ userCall x = false) ∨ userCall y = false) (happ : isApp x = false ∨ isApp y = false) (hfree : FreeInf s.H) (h : Step P ops Hr x s fun s' => Step P ops Hr y s' K) : Step P ops Hr y s fun s' => Step P ops Hr x s' K := by
  obtain ⟨h1, h2, h3⟩ := apart_specs hap
  have yx : ∀ (s : St) v z, z ∈ y.op.operands → evo (s.put x.dst v) z = evo s z := fun s v z hz => evo_put (fun t ht => (looks_of (h1 t ht)).1 z hz)
  have xy : ∀ (s : St) v z, z ∈ x.op.operands → evo (s.put y.dst v) z = evo s z := fun s v z hz => evo_put (fun t ht => (looks_of (h3 t ht)).1 z hz)
  have gy : ∀ (s : St) v Y N, Tguard ops y (s.put x.dst v) Y N ↔ Tguard ops y s Y N := fun s v Y N => guard_put (fun t ht => h1 t ht)
  have gx : ∀ (s : St) v Y N, Tguard ops x (s.put y.dst v) Y N ↔ Tguard ops x s Y N := fun s v Y N => guard_put (fun t ht => h3 t ht)
  have pc : ∀ (s : St) v u, (s.put x.dst v).put y.dst u = (s.put y.dst u).put x.dst v := fun s v u => put_comm (fun t ht => h2 t ht)
  rcases step_cases h with ⟨v, _, hv, hK⟩ | ⟨mk, c, m, hm, hal, hHr, hnd, _, hv, hK⟩
  · rcases step_cases hK with ⟨u, _, hu, hK⟩ | ⟨mk', c', m', _, _, _, hnd', _, hu, hK⟩
    · refine hu s (fun z hz => (yx s v z hz).symm) (fun Y N => (gy s v Y N).symm) _ ?_
      refine hv _ (fun z hz => xy s u z hz) (fun Y N => gx s u Y N) _ ?_
      rw [← pc]
      exact hK
    · refine hu s (fun z hz => (yx s v z hz).symm) (fun Y N => (gy s v Y N).symm) (by rw [put_H'] at hnd'; exact hnd') _ (fun l hl => ?_)
      refine hv _ (fun z hz => by rw [xy _ _ z hz, evo_H]) (fun Y N => (gx _ _ Y N).trans guard_H) _ ?_
      have h0 := hK l (by rw [put_H']; exact hl)
      rw [put_H', ← put_H (s := s) (d := x.dst) (v := v) (upd s.H l (some c')), pc] at h0
      exact h0
  · obtain ⟨l0, hl0, hl0a⟩ : ∃ l0, s.H l0 = none ∧ appLab y s ≠ some l0 := by
      obtain ⟨N, hN⟩ := hfree
      by_cases e : appLab y s = some (.real N)
      · refine ⟨.real (N + 1), hN _ (by omega), fun e' => ?_⟩
        rw [e] at e'
        simp at e'
      · exact ⟨.real N, hN _ (Nat.le_refl _), e⟩
    have hyc : userCall y = false := by
      rcases hmk with h | h
      · rcases hm with hm | hm
        · rw [hm] at h; cases h.1
        · rw [hm] at h; cases h.2
      · exact h
    -- the state behind the first step
    have st : ∀ l, ∀ z ∈ y.op.operands, evo ({ s with H := upd s.H l (some c) }.put x.dst (mk l)) z = evo s z := fun l z hz => by rw [yx _ _ z hz, evo_H]
    have sg : ∀ l Y N, Tguard ops y ({ s with H := upd s.H l (some c) }.put x.dst (mk l)) Y N ↔ Tguard ops y s Y N := fun l Y N => (gy _ _ Y N).trans guard_H
    rcases step_cases (hK _ (.inl hl0)) with ⟨u, hud, hu, _⟩ | ⟨mk', c', m', _, hal', _, hnd', hY', hu, _⟩
    · refine hu s (fun z hz => (st _ z hz).symm) (fun Y N => (sg _ Y N).symm) _ ?_
      refine hv _ (fun z hz => xy s u z hz) (fun Y N => gx s u Y N) (by rw [put_H']; exact hnd) _ (fun l hl => ?_)
      rw [okl_put] at hl
      have h1 := hK l hl
      have h2 := hu ({ s with H := upd s.H l (some c) }.put x.dst (mk l)) (fun z hz => by rw [st l z hz, st _ z hz]) (fun Y N => (sg l Y N).trans (sg _ Y N).symm)
        (fun s' => s' = ({ s with H := upd s.H l (some c) }.put x.dst (mk l)).put y.dst u) rfl
      have fin : K (({ s with H := upd s.H l (some c) }.put x.dst (mk l)).put y.dst u) := by
        rcases step_cases (h1.both hyc h2) with ⟨v', _, _, hk, he⟩ | ⟨mk'', c'', m'', _, _, _, _, _, _, hk⟩
        · rw [← he]; exact hk
        · obtain ⟨Nf, hNf⟩ := (FreeInf.upd hfree l (some c) : FreeInf (upd s.H l (some c)))
          obtain ⟨hk, he⟩ := hk (.real Nf) (.inl (by rw [put_H']; exact hNf Nf (Nat.le_refl _)))
          rw [← he]; exact hk
      rw [put_H', ← put_H (s := s) (d := y.dst) (v := u) (upd s.H l (some c)), ← pc]
      exact fin
    · rw [put_H'] at hnd'
      rw [appLab_congr (st l0)] at hal'
      have hq0 : ∀ q, m' = some q → q.1 ≠ l0 := fun q e e' => hl0a (by rw [hal', e, ← e']; rfl)
      have hnd2 : need m' s.H := (need_upd hq0).1 hnd'
      have hone : m = none ∨ m' = none := by
        rcases happ with e | e
        · left; rw [appLab_isApp e] at hal; cases m with
          | none => rfl
          | some q => cases hal
        · right; rw [appLab_isApp e] at hal'; cases m' with
          | none => rfl
          | some q => cases hal'
      refine hu s (fun z hz => (st _ z hz).symm) (fun Y N => (sg _ Y N).symm) hnd2 _ (fun l' hl' => ?_)
      have hneed1 : need m (upd s.H l' (some c')) := (need_upd (fun q e e' => by
        rcases hone with h | h
        · rw [h] at e; cases e
        · rw [h] at hl'
          have := okl_none hl'
          rw [← e', hnd q e] at this; cases this)).2 hnd
      refine hv _ (fun z hz => by rw [xy _ _ z hz, evo_H]) (fun Y N => (gx _ _ Y N).trans guard_H) (by rw [put_H']; exact hneed1) _ (fun l hl => ?_)
      rw [put_H'] at hl
      have hl : okl m (upd s.H l' (some c')) l := hl
      have hne : l ≠ l' := by
        intro e; subst e
        rcases hl with h | h
        · rw [upd_same] at h; cases h
        · cases hm' : m with
          | none => rw [hm'] at h; cases h
          | some q =>
            rw [hm'] at h
            have hq : q.1 = l := by simpa using h
            rcases hone with h' | h'
            · rw [h'] at hm'; cases hm'
            · rw [h'] at hl'
              have := okl_none hl'
              rw [← hq, hnd q hm'] at this; cases this
      have hls : okl m s.H l := by
        rcases hl with h | h
        · rw [upd_ne _ _ hne] at h; exact .inl h
        · exact .inr h
      have hneed2 : need m' (upd s.H l (some c)) := (need_upd (fun q e e' => by
        rcases hone with h | h
        · rw [h] at hls
          have := okl_none hls
          rw [← e', hnd2 q e] at this; cases this
        · rw [h] at e; cases e)).2 hnd2
      have h1 := hK l hls
      have h2 := hu ({ s with H := upd s.H l (some c) }.put x.dst (mk l)) (fun z hz => by rw [st l z hz, st _ z hz]) (fun Y N => (sg l Y N).trans (sg _ Y N).symm) (by rw [put_H']; exact hneed2)
        (fun s' => ∃ k, okl m' (upd s.H l (some c)) k ∧ s' = { ({ s with H := upd s.H l (some c) }.put x.dst (mk l)) with H := upd (upd s.H l (some c)) k (some c') }.put y.dst (mk' k)) (fun k hk => ⟨k, by rw [put_H'] at hk; exact hk, by rw [put_H']⟩)
      have hl'2 : okl m' (upd s.H l (some c)) l' := by
        rcases hl' with h | h
        · exact .inl (by rw [upd_ne _ _ (Ne.symm hne)]; exact h)
        · exact .inr h
      have fin : K ({ ({ s with H := upd s.H l (some c) }.put x.dst (mk l)) with H := upd (upd s.H l (some c)) l' (some c') }.put y.dst (mk' l')) := by
        rcases step_cases (h1.both hyc h2) with ⟨v', hvd, _, _, k, hk0, he⟩ | ⟨mk'', c'', m'', _, hal'', _, _, _, _, hk⟩
        · exfalso
          have hH := congrArg (fun s : St => s.H k) he
          simp only [put_H', upd_same] at hH
          rcases hk0 with h | h
          · rw [h] at hH; cases hH
          · rcases hvd with e | e
            · rw [appLab_congr (st l), hal', h] at e; cases e
            · exact guard_excl (fun Y N hy => (sg l Y N).2 ((sg l0 Y N).1 (hY' Y N hy))) e
        · rw [appLab_congr (st l), hal'] at hal''
          obtain ⟨hk, k, hk0, he⟩ := hk l' (by rw [put_H']; exact hl'2.imp id (fun e => by rw [← hal'']; exact e))
          have hkl : k = l' := by
            apply Classical.byContradiction
            intro hkl
            rcases hk0 with h | h
            · have := congrArg (fun s : St => s.H k) he
              simp only [put_H', upd_same] at this
              rw [upd_ne _ _ hkl] at this
              rw [h] at this; cases this
            · have hfree' : (upd s.H l (some c)) l' = none := by
                rcases hl'2 with h' | h'
                · exact h'
                · rw [h] at h'; exact absurd (by simpa using h') hkl
              have := congrArg (fun s : St => s.H l') he
              simp only [put_H', upd_same] at this
              rw [upd_ne _ _ (Ne.symm hkl), hfree'] at this
              cases this
          subst hkl
          rw [← he]; exact hk
      have e1 : ({ ({ s with H := upd s.H l (some c) }.put x.dst (mk l)) with H := upd (upd s.H l (some c)) l' (some c') }.put y.dst (mk' l') : St) =
          { ({ s with H := upd s.H l' (some c') }.put y.dst (mk' l')) with H := upd (({ s with H := upd s.H l' (some c') }.put y.dst (mk' l')).H) l (some c) }.put x.dst (mk l) := by
        rw [put_H', upd_comm hne]
        simp only [← put_H]
        rw [← pc]
      rw [← e1]
      exact fin
end
end Go.Proofs.Ythdgdngdfijfhaa
