/- Part 0 of the proof: La1, La2, La3, La4, LaK, La5, La6, LaM, La7. By an AI agent. -/
import Derived.CallsIn
import Derived.OrdersIn
import Derived.RangeFuncLeaves
import Derived.RangeFuncRecord
import Derived.Below
import Derived.Laws.IdiomCopy
import Derived.Laws.Cells
import Derived.LaidEql
import Derived.WideLaws
import Derived.Laws.StructEq
import Derived.Laws.Pointers
import Derived.Laws.Small
import Derived.Laws.Cover3
import Derived.ChangeKeysEq
import Derived.Laws.BytesString
import Derived.Lib.UnsafeStr
set_option linter.all false
/- Layer A, part 1: abstract values, abstract heaps, and when a world is what an abstract heap says. -/
namespace Go.La
open Go Go.RowKit

abbrev Str := List UInt8

/-- An abstract address: a block and a cell of it. -/
structure Pt where
  b : Nat
  o : Nat
  deriving DecidableEq, Inhabited
def Pt.add (p : Pt) (n : Nat) : Pt := ⟨p.b, p.o + n⟩

/-- Abstract values: as the machine's, without capacities; 'dead' stands for anything. -/
inductive AV where
  | bool (b : Bool)
  | int (k : IntKind) (n : Int)
  | str (s : Str)
  | ptr (p : Option Pt)
  | anyptr
  | slice (p : Option Pt) (len sz : Nat)
  | map (r : Option Nat)
  | func (fn : Fn) (first captured : List AV)
  | nilFunc
  | iface (t : TypeId) (v : AV)
  | nilIface
  | agg (l : List AV)
  | tuple (l : List AV)
  | dead
  deriving Inhabited

/-- May the value stand in one cell? -/
def AV.one : AV → Bool
  | .agg _ | .tuple _ | .dead | .anyptr => false
  | _ => true

/-- Where an abstract block lies: block, first cell, how many cells are its own. -/
structure Slot where
  cb : Nat
  co : Nat
  room : Nat
  deriving Inhabited
abbrev Mp := Nat → Option Slot
def Slot.addr (s : Slot) (o : Nat) : Addr := ⟨s.cb, s.co + o, none⟩

inductive FnRel (m : Mp) : Fn → Fn → Prop
  | func (f : FuncId) : FnRel m (.func f) (.func f)
  | yield (l : Nat) (s : Slot) (h : m l = some s) : FnRel m (.yield l) (.yield s.cb)

mutual
inductive VRel (m : Mp) : AV → Value → Prop
  | bool (b : Bool) : VRel m (.bool b) (.bool b)
  | int (k : IntKind) (n : Int) : VRel m (.int k n) (.int k n)
  | str (s : Str) : VRel m (.str s) (.string ⟨s.toArray⟩)
  | pnil : VRel m (.ptr none) (.pointer none)
  | ptr (p : Pt) (s : Slot) (h : m p.b = some s) : VRel m (.ptr (some p)) (.pointer (some (s.addr p.o)))
  | anyptr (a : Addr) : VRel m .anyptr (.pointer (some a))
  | snil (sz : Nat) : VRel m (.slice none 0 sz) (.slice none 0 0)
  | slice (p : Pt) (len sz : Nat) (a : Addr) (cap : Nat) (s : Slot) (h : m p.b = some s) (h1 : len ≤ cap) (h2 : p.o + cap * sz ≤ s.room) (h3 : cap = 0 ∨ a = s.addr p.o) : VRel m (.slice (some p) len sz) (.slice (some a) len cap)
  | mnil : VRel m (.map none) (.map none)
  | map (r : Nat) (s : Slot) (h : m r = some s) : VRel m (.map (some r)) (.map (some s.cb))
  | func (fn fn' : Fn) (l1 l2 : List AV) (a1 a2 : Array Value) (h : FnRel m fn fn') (h1 : VsRel m l1 a1.toList) (h2 : VsRel m l2 a2.toList) : VRel m (.func fn l1 l2) (.func fn' a1 a2)
  | fnil : VRel m .nilFunc .nilFunc
  | iface (t : TypeId) (v : AV) (v' : Value) (h : VRel m v v') : VRel m (.iface t v) (.iface t v')
  | inil : VRel m .nilIface .nilIface
  | agg (l : List AV) (a : Array Value) (h : VsRel m l a.toList) : VRel m (.agg l) (.agg a)
  | tuple (l : List AV) (a : Array Value) (h : VsRel m l a.toList) : VRel m (.tuple l) (.tuple a)
  | dead (v : Value) : VRel m .dead v
inductive VsRel (m : Mp) : List AV → List Value → Prop
  | nil : VsRel m [] []
  | cons (x : AV) (y : Value) (xs : List AV) (ys : List Value) (h1 : VRel m x y) (h2 : VsRel m xs ys) : VsRel m (x :: xs) (y :: ys)
end

def Mp.le (m m' : Mp) : Prop := ∀ b s, m b = some s → m' b = some s
theorem Mp.le.refl (m : Mp) : m.le m := fun _ _ h => h
theorem Mp.le.trans {a b c : Mp} (h : a.le b) (k : b.le c) : a.le c := fun x s e => k x s (h x s e)

theorem FnRel.mono {m m' : Mp} (hm : m.le m') {f f' : Fn} (h : FnRel m f f') : FnRel m' f f' := by
  cases h with
  | func f => exact .func f
  | yield l s h => exact .yield l s (hm _ _ h)

mutual
theorem VRel.mono {m m' : Mp} (hm : m.le m') : ∀ {v : AV} {v' : Value}, VRel m v v' → VRel m' v v'
  | _, _, .bool b => .bool b
  | _, _, .int k n => .int k n
  | _, _, .str s => .str s
  | _, _, .pnil => .pnil
  | _, _, .ptr p s h => .ptr p s (hm _ _ h)
  | _, _, .anyptr a => .anyptr a
  | _, _, .snil sz => .snil sz
  | _, _, .slice p len sz a cap s h h1 h2 h3 => .slice p len sz a cap s (hm _ _ h) h1 h2 h3
  | _, _, .mnil => .mnil
  | _, _, .map r s h => .map r s (hm _ _ h)
  | _, _, .func fn fn' l1 l2 a1 a2 h h1 h2 => .func fn fn' l1 l2 a1 a2 (h.mono hm) (VsRel.mono hm h1) (VsRel.mono hm h2)
  | _, _, .fnil => .fnil
  | _, _, .iface t v v' h => .iface t v v' (VRel.mono hm h)
  | _, _, .inil => .inil
  | _, _, .agg l a h => .agg l a (VsRel.mono hm h)
  | _, _, .tuple l a h => .tuple l a (VsRel.mono hm h)
  | _, _, .dead v => .dead v
theorem VsRel.mono {m m' : Mp} (hm : m.le m') : ∀ {v : List AV} {v' : List Value}, VsRel m v v' → VsRel m' v v'
  | _, _, .nil => .nil
  | _, _, .cons x y xs ys h1 h2 => .cons x y xs ys (VRel.mono hm h1) (VsRel.mono hm h2)
end

theorem VsRel.length {m : Mp} : ∀ {l : List AV} {l' : List Value}, VsRel m l l' → l.length = l'.length
  | _, _, .nil => rfl
  | _, _, .cons _ _ _ _ _ h => by simp [VsRel.length h]
theorem VsRel.get' {m : Mp} : ∀ {l : List AV} {l' : List Value}, VsRel m l l' → ∀ (i : Nat) (v : AV), l[i]? = some v → ∃ v', l'[i]? = some v' ∧ VRel m v v'
  | _, _, .nil, _, _, h => by simp at h
  | _, _, .cons x y xs ys h1 h2, 0, v, h => by simp at h; subst h; exact ⟨y, rfl, h1⟩
  | _, _, .cons x y xs ys h1 h2, i + 1, v, h => by simpa using VsRel.get' h2 i v (by simpa using h)
theorem VsRel.get {m : Mp} {l : List AV} {l' : List Value} (h : VsRel m l l') {i : Nat} {v : AV} (e : l[i]? = some v) : ∃ v', l'[i]? = some v' ∧ VRel m v v' := h.get' i v e
theorem VsRel.of_get {m : Mp} : ∀ {l : List AV} {l' : List Value}, l.length = l'.length → (∀ (i : Nat) v v', l[i]? = some v → l'[i]? = some v' → VRel m v v') → VsRel m l l'
  | [], [], _, _ => .nil
  | x :: xs, y :: ys, hl, h => .cons x y xs ys (h 0 x y rfl rfl) (VsRel.of_get (by simpa using hl) fun i v v' a b => h (i + 1) v v' (by simpa using a) (by simpa using b))
theorem VsRel.append {m : Mp} : ∀ {a b : List AV} {a' b' : List Value}, VsRel m a a' → VsRel m b b' → VsRel m (a ++ b) (a' ++ b')
  | _, _, _, _, .nil, h => h
  | _, _, _, _, .cons x y xs ys h1 h2, h => .cons x y _ _ h1 (VsRel.append h2 h)

/-- The type of a block's variables; is it a whole block of the machine's, of which all cells are known? is what may not be written known to lie within the first 'fz' cells? -/
structure El where
  t : TypeId
  wh : Bool
  cl : Bool
  deriving DecidableEq, Inhabited
/-- What a block is. 'cells ro fz el c': its cells, of elements of type el; may they not be written ('ro'); those below fz may not be written. -/
inductive AObj where
  | cells (ro : Bool) (fz : Nat) (el : El) (c : List AV)
  | map (es : List (AV × AV × Nat)) (clock : Nat)
  | iter (r : Option Nat) (since : Nat) (seen : List Nat) (last : Nat)
  | loop (st : LoopState) (pend : Option Code) (tmps : List AV) (params : Array Tmp) (assign body : Code) (d : Nat)
  | dfr (isOpen : Bool)
  | siter (s : Str) (pos : Nat)
  deriving Inhabited

def AObj.fixed : AObj → Bool
  | .cells ro _ _ _ => ro
  | _ => false

structure AH where
  next : Nat
  get : Nat → Option AObj

def AH.set (h : AH) (b : Nat) (o : Option AObj) : AH := { h with get := fun x => if x = b then o else h.get x }
def AH.new (h : AH) (o : AObj) : AH := { next := h.next + 1, get := fun x => if x = h.next then some o else h.get x }
def AH.cells (h : AH) (b : Nat) : Option (List AV) :=
  match h.get b with
  | some (.cells _ _ _ c) => some c
  | _ => none
def AH.el (h : AH) (b : Nat) : Option El :=
  match h.get b with
  | some (.cells _ _ el _) => some el
  | _ => none
/-- n cells from an address on. -/
def AH.rd (h : AH) (p : Pt) (n : Nat) : Option (List AV) :=
  match h.get p.b with
  | some (.cells _ _ _ c) => if p.o + n ≤ c.length then some ((c.drop p.o).take n) else none
  | _ => none
def splice (c : List AV) (o : Nat) (l : List AV) : List AV := c.take o ++ l ++ c.drop (o + l.length)
def AH.wr (h : AH) (p : Pt) (l : List AV) : Option AH :=
  match h.get p.b with
  | some (.cells false fz el c) => if p.o + l.length ≤ c.length ∧ fz ≤ p.o then some (h.set p.b (some (.cells false fz el (splice c p.o l)))) else none
  | _ => none

def CellsOk (m : Mp) (w : World) (s : Slot) (ro : Bool) (fz : Nat) (el : El) (c : List AV) : Prop :=
  ∃ arr lo hi, w.heap[s.cb]? = some (.cells arr el.t (lo, hi)) ∧ s.co + s.room ≤ arr.size ∧ c.length ≤ s.room ∧
    (∀ i v, c[i]? = some v → v.one = true ∧ ∃ v', arr[s.co + i]? = some v' ∧ VRel m v v') ∧
    (ro = false → fz ≤ c.length ∧ ∀ i, fz ≤ i → i < s.room → ¬ (lo ≤ s.co + i ∧ s.co + i < hi)) ∧
    (el.wh = true → s.co = 0 ∧ arr.size = c.length) ∧
    (el.cl = true → lo = hi ∨ (s.co ≤ lo ∧ hi ≤ s.co + fz))

def Slot.apart (s t : Slot) : Prop := s.cb ≠ t.cb

def EntRel (m : Mp) : List (AV × AV × Nat) → List MapEntry → Prop
  | [], [] => True
  | (k, v, n) :: r, e :: s => VRel m k e.key ∧ VRel m v e.val ∧ e.born = n ∧ EntRel m r s
  | _, _ => False

/-- Is the world what the abstract heap says? -/
theorem EntRel.mono {m m' : Mp} (hm : m.le m') : ∀ {a : List (AV × AV × Nat)} {b : List MapEntry}, EntRel m a b → EntRel m' a b
  | [], [], _ => trivial
  | (_, _, _) :: _, _ :: _, ⟨h1, h2, h3, h4⟩ => ⟨h1.mono hm, h2.mono hm, h3, EntRel.mono hm h4⟩
  | [], _ :: _, h => h.elim
  | (_, _, _) :: _, [], h => h.elim
inductive ObjRel (m : Mp) : AObj → Obj → Prop
  | map (es : List (AV × AV × Nat)) (arr : Array MapEntry) (clock : Nat) (h : EntRel m es arr.toList) : ObjRel m (.map es clock) (.map arr clock)
  | iter0 (since : Nat) (seen : List Nat) (last : Nat) : ObjRel m (.iter none since seen last) (.mapIter none since seen.toArray last)
  | iter (r : Nat) (s : Slot) (h : m r = some s) (since : Nat) (seen : List Nat) (last : Nat) : ObjRel m (.iter (some r) since seen last) (.mapIter (some s.cb) since seen.toArray last)
  | loop (st : LoopState) (pend : Option Code) (fn : FuncId) (tmps : List AV) (ps : Array Tmp) (asg body : Code) (d : Nat) (ct : List Value) (cd : Slot) (h1 : VsRel m tmps ct) (h2 : m d = some cd) :
      ObjRel m (.loop st pend tmps ps asg body d) (.loop { state := st, pending := pend, fn, tmps := ct.toArray, params := ps, assign := asg, body, defers := cd.cb })
  | dfr (o : Bool) : ObjRel m (.dfr o) (.deferred (if o then some [] else none))
  | siter (s : Str) (pos : Nat) : ObjRel m (.siter s pos) (.stringIter ⟨s.toArray⟩ pos)
theorem ObjRel.mono {m m' : Mp} (hm : m.le m') {o : AObj} {ob : Obj} (h : ObjRel m o ob) : ObjRel m' o ob := by
  cases h with
  | map es arr clock h => exact .map es arr clock (h.mono hm)
  | iter0 since seen last => exact .iter0 since seen last
  | iter r s h since seen last => exact .iter r s (hm _ _ h) since seen last
  | loop st pend fn tmps ps asg body d ct cd h1 h2 => exact .loop st pend fn tmps ps asg body d ct cd (h1.mono hm) (hm _ _ h2)
  | dfr o => exact .dfr o
  | siter s pos => exact .siter s pos

structure Sim (m : Mp) (h : AH) (w : World) : Prop where
  top : ∀ b, h.next ≤ b → h.get b = none ∧ m b = none
  lies : ∀ b o, h.get b = some o → ∃ s, m b = some s ∧ s.cb < w.heap.size
  cells : ∀ b ro fz el c s, h.get b = some (.cells ro fz el c) → m b = some s → CellsOk m w s ro fz el c
  disj : ∀ b b' fz el c ro' fz' el' c' s s', h.get b = some (.cells false fz el c) → h.get b' = some (.cells ro' fz' el' c') → b ≠ b' → m b = some s → m b' = some s' → s.apart s'
  objs : ∀ b o s, h.get b = some o → (∀ ro fz el c, o ≠ .cells ro fz el c) → m b = some s → s.co = 0 ∧ ∃ ob, w.heap[s.cb]? = some ob ∧ ObjRel m o ob
  inj : ∀ b b' o o' s s', h.get b = some o → h.get b' = some o' → b ≠ b' → (∀ ro fz el c, o ≠ .cells ro fz el c) → m b = some s → m b' = some s' → s.cb ≠ s'.cb

/-- A stretch of a run: what was named stays named; what is not to be written, and what has no name, stays as it is. -/
structure Steps (m : Mp) (h : AH) (w : World) (m' : Mp) (h' : AH) (w' : World) : Prop where
  next : h.next ≤ h'.next
  map : m.le m'
  size : w.heap.size ≤ w'.heap.size
  os : w'.os = w.os
  tape : w'.tape = w.tape
  out : w'.output = w.output
  keep : ∀ k, k < w.heap.size → (∀ b o s, h.get b = some o → o.fixed = false → m b = some s → s.cb ≠ k) → w'.heap[k]? = w.heap[k]?
  live : ∀ b o s, h'.get b = some o → o.fixed = false → m' b = some s → w.heap.size ≤ s.cb ∨ ∃ b0 o0 s0, h.get b0 = some o0 ∧ o0.fixed = false ∧ m b0 = some s0 ∧ s0.cb = s.cb
  kin : ∀ b o s, h'.get b = some o → m' b = some s → w.heap.size ≤ s.cb ∨ ∃ b0 o0 s0, h.get b0 = some o0 ∧ m b0 = some s0 ∧ s0.cb = s.cb
  gone : ∀ b, b < h.next → h.get b = none → h'.get b = none
  anon : ∀ b, b < h.next → m b = none → m' b = none

theorem Steps.refl (m : Mp) (h : AH) (w : World) : Steps m h w m h w :=
  ⟨Nat.le_refl _, Mp.le.refl m, Nat.le_refl _, rfl, rfl, rfl, fun _ _ _ => rfl, fun b o s hb hf hs => .inr ⟨b, o, s, hb, hf, hs, rfl⟩, fun b o s hb hs => .inr ⟨b, o, s, hb, hs, rfl⟩, fun _ _ h => h, fun _ _ h => h⟩

theorem Steps.trans {m1 m2 m3 : Mp} {h1 h2 h3 : AH} {w1 w2 w3 : World} (a : Steps m1 h1 w1 m2 h2 w2) (b : Steps m2 h2 w2 m3 h3 w3) : Steps m1 h1 w1 m3 h3 w3 := by
  refine ⟨Nat.le_trans a.next b.next, a.map.trans b.map, Nat.le_trans a.size b.size, b.os.trans a.os, b.tape.trans a.tape, b.out.trans a.out, ?_, ?_, ?_, fun x hx hn => b.gone x (Nat.lt_of_lt_of_le hx a.next) (a.gone x hx hn), fun x hx hn => b.anon x (Nat.lt_of_lt_of_le hx a.next) (a.anon x hx hn)⟩
  · intro k hk hn
    refine (b.keep k (Nat.lt_of_lt_of_le hk a.size) ?_).trans (a.keep k hk hn)
    intro x o s hx hf hs e
    rcases a.live x o s hx hf hs with hge | ⟨b0, o0, s0, h0, f0, m0, e0⟩
    · omega
    · exact hn b0 o0 s0 h0 f0 m0 (e0.trans e)
  · intro x o s hx hf hs
    rcases b.live x o s hx hf hs with hge | ⟨b0, o0, s0, h0, f0, m0, e0⟩
    · exact .inl (Nat.le_trans a.size hge)
    · rcases a.live b0 o0 s0 h0 f0 m0 with hge | ⟨b1, o1, s1, h1', f1, m1', e1⟩
      · exact .inl (e0 ▸ hge)
      · exact .inr ⟨b1, o1, s1, h1', f1, m1', e1.trans e0⟩
  · intro x o s hx hs
    rcases b.kin x o s hx hs with hge | ⟨b0, o0, s0, h0, m0, e0⟩
    · exact .inl (Nat.le_trans a.size hge)
    · rcases a.kin b0 o0 s0 h0 m0 with hge | ⟨b1, o1, s1, h1', m1', e1⟩
      · exact .inl (e0 ▸ hge)
      · exact .inr ⟨b1, o1, s1, h1', m1', e1.trans e0⟩
end Go.La
/- Layer A, part 2: what reading, writing and making blocks does to a world that is what an abstract heap says. -/
namespace Go.La
open Go Go.RowKit

/-! ### Cells written one behind the other -/
theorem setCells_size : ∀ (vs : List Value) (b o : Nat) (w : World), (w.setCells b o vs).heap.size = w.heap.size
  | [], _, _, _ => rfl
  | v :: r, b, o, w => by simp [World.setCells, setCells_size r, World.setCell]
theorem setCells_misc : ∀ (vs : List Value) (b o : Nat) (w : World), (w.setCells b o vs).os = w.os ∧ (w.setCells b o vs).tape = w.tape ∧ (w.setCells b o vs).output = w.output
  | [], _, _, _ => ⟨rfl, rfl, rfl⟩
  | v :: r, b, o, w => by
    have := setCells_misc r b (o + 1) (w.setCell ⟨b, o, none⟩ v)
    simpa [World.setCells, World.setCell] using this
theorem setCells_other : ∀ (vs : List Value) (b o : Nat) (w : World) (k : Nat), k ≠ b → (w.setCells b o vs).heap[k]? = w.heap[k]?
  | [], _, _, _, _, _ => rfl
  | v :: r, b, o, w, k, h => by
    rw [World.setCells, setCells_other r b (o + 1) _ k h]
    exact Below.heap_setCell w ⟨b, o, none⟩ v k h
theorem setCells_own : ∀ (vs : List Value) (b o : Nat) (w : World) (arr : Array Value) (el : TypeId) (fz : Nat × Nat), w.heap[b]? = some (.cells arr el fz) →
    ∃ arr', (w.setCells b o vs).heap[b]? = some (.cells arr' el fz) ∧ arr'.size = arr.size ∧
      ∀ i, arr'[i]? = if o ≤ i ∧ i < o + vs.length ∧ i < arr.size then vs[i - o]? else arr[i]?
  | [], b, o, w, arr, el, fz, h => ⟨arr, h, rfl, fun i => by simp; omega⟩
  | v :: r, b, o, w, arr, el, fz, h => by
    have h1 : (w.setCell ⟨b, o, none⟩ v).heap[b]? = some (.cells (arr.setIfInBounds o v) el fz) := by
      simp only [World.setCell, Array.getElem?_modify, if_true, h]; rfl
    obtain ⟨arr', ha, hs, hg⟩ := setCells_own r b (o + 1) _ _ el fz h1
    refine ⟨arr', ha, by simpa using hs, fun i => ?_⟩
    rw [hg i]
    simp only [Array.size_setIfInBounds, List.length_cons]
    by_cases h2 : o + 1 ≤ i ∧ i < o + 1 + r.length ∧ i < arr.size
    · rw [if_pos h2, if_pos (by omega), show i - o = (i - (o + 1)) + 1 by omega, List.getElem?_cons_succ]
    · rw [if_neg h2, Array.getElem?_setIfInBounds]
      by_cases h3 : o = i
      · subst h3
        by_cases h4 : o < arr.size
        · simp [h4]
        · simp [h4]
      · rw [if_neg h3, if_neg (by omega)]

theorem Sim.heap_of {m : Mp} {h : AH} {w w' : World} (s : Sim m h w) (hz : w.heap.size ≤ w'.heap.size)
    (hk : ∀ b o t, h.get b = some o → m b = some t → w'.heap[t.cb]? = w.heap[t.cb]?) : Sim m h w' := by
  refine ⟨s.top, fun b o hb => ?_, fun b ro fz el c t hb ht => ?_, s.disj, fun b o t hb hn ht => ?_, s.inj⟩
  · obtain ⟨t, ht, hl⟩ := s.lies b o hb; exact ⟨t, ht, by omega⟩
  · have := s.cells b ro fz el c t hb ht; unfold CellsOk at *; rw [hk b _ t hb ht]; exact this
  · rw [hk b _ t hb ht]; exact s.objs b o t hb hn ht

/-- What is no longer asked for may go. -/
theorem Sim.kill {m : Mp} {h : AH} {w : World} (s : Sim m h w) (b : Nat) : Sim m (h.set b none) w := by
  have key : ∀ x o, (h.set b none).get x = some o → h.get x = some o := by
    intro x o hx; simp only [AH.set] at hx; split at hx <;> simp_all
  refine ⟨fun x hx => ⟨?_, (s.top x hx).2⟩, fun x o hx => s.lies x o (key x o hx), fun x ro fz el c t hx => s.cells x ro fz el c t (key _ _ hx),
    fun x y fz el c ro' fz' el' c' t t' hx hy => s.disj x y fz el c ro' fz' el' c' t t' (key _ _ hx) (key _ _ hy), fun x o t hx => s.objs x o t (key _ _ hx),
    fun x y o o' t t' hx hy => s.inj x y o o' t t' (key _ _ hx) (key _ _ hy)⟩
  simp only [AH.set]; split
  · rfl
  · exact (s.top x hx).1
theorem Steps.kill {m : Mp} {h : AH} {w : World} (b : Nat) : Steps m h w m (h.set b none) w := by
  refine ⟨Nat.le_refl _, Mp.le.refl _, Nat.le_refl _, rfl, rfl, rfl, fun _ _ _ => rfl, fun x o t hx hf ht => .inr ⟨x, o, t, ?_, hf, ht, rfl⟩, fun x o t hx ht => .inr ⟨x, o, t, ?_, ht, rfl⟩, fun x _ hx => ?_, fun _ _ h => h⟩
  · simp only [AH.set] at hx; split at hx <;> simp_all
  · simp only [AH.set] at hx; split at hx <;> simp_all
  · simp only [AH.set]; split; rfl; exact hx

/-- A read. -/
theorem Sim.rd {m : Mp} {h : AH} {w : World} (s : Sim m h w) {p : Pt} {n : Nat} {l : List AV} (hr : h.rd p n = some l) :
    ∃ (t : Slot) (l' : List Value), m p.b = some t ∧ l'.length = n ∧ VsRel m l l' ∧ (∀ v ∈ l, v.one = true) ∧ ∀ j v, l'[j]? = some v → w.cell? ((t.addr p.o).add j) = some v := by
  unfold AH.rd at hr
  split at hr
  · rename_i ro fz el c hc
    split at hr
    · rename_i hlen
      obtain ⟨t, ht, -⟩ := s.lies _ _ hc
      obtain ⟨arr, lo, hi, hw, hsz, hcl, hcv, -⟩ := s.cells _ _ _ _ _ _ hc ht
      cases hr
      have hln : ((c.drop p.o).take n).length = n := by simp; omega
      have hget : ∀ j, j < n → ∃ v v', ((c.drop p.o).take n)[j]? = some v ∧ v.one = true ∧ arr[t.co + (p.o + j)]? = some v' ∧ VRel m v v' := by
        intro j hj
        have : p.o + j < c.length := by omega
        obtain ⟨h1, v', h2, h3⟩ := hcv (p.o + j) c[p.o + j] (by simp [this])
        exact ⟨c[p.o + j], v', by simp [hj, this], h1, h2, h3⟩
      refine ⟨t, (List.range n).map fun j => (arr[t.co + (p.o + j)]?).getD undef, ht, by simp, VsRel.of_get (by simp; omega) ?_, ?_, ?_⟩
      · intro i v v' h1 h2
        have hi' : i < n := by
          have := (List.getElem?_eq_some_iff.1 h1).1; omega
        obtain ⟨u, u', a1, -, a3, a4⟩ := hget i hi'
        rw [a1] at h1; cases h1
        simp [hi', a3] at h2; subst h2; exact a4
      · intro v hv
        obtain ⟨j, hj⟩ := List.getElem?_of_mem hv
        have hj' : j < n := by have := (List.getElem?_eq_some_iff.1 hj).1; omega
        obtain ⟨u, u', a1, a2, -, -⟩ := hget j hj'
        rw [a1] at hj; cases hj; exact a2
      · intro j v hv
        have hj' : j < n := by have := (List.getElem?_eq_some_iff.1 hv).1; simpa using this
        obtain ⟨u, u', a1, -, a3, a4⟩ := hget j hj'
        simp [hj', a3] at hv; subst hv
        have ha : (t.addr p.o).add j = ⟨t.cb, t.co + p.o + j, none⟩ := by unfold Addr.add Slot.addr; split <;> simp_all
        rw [ha]; simp only [World.cell?, hw]; simpa [Nat.add_assoc] using a3
    · simp at hr
  · simp at hr

theorem splice_get (c : List AV) (o : Nat) (l : List AV) (h : o + l.length ≤ c.length) (i : Nat) :
    (splice c o l)[i]? = if o ≤ i ∧ i < o + l.length then l[i - o]? else c[i]? := by
  unfold splice
  by_cases h1 : i < o
  · rw [if_neg (by omega), List.append_assoc, List.getElem?_append_left (by simp; omega), List.getElem?_take, if_pos h1]
  · rw [List.append_assoc, List.getElem?_append_right (by simp; omega)]
    simp only [List.length_take, Nat.min_eq_left (show o ≤ c.length by omega)]
    by_cases h2 : i < o + l.length
    · rw [if_pos ⟨by omega, h2⟩, List.getElem?_append_left (by omega)]
    · rw [if_neg (by omega), List.getElem?_append_right (by omega), List.getElem?_drop]
      congr 1; omega
theorem splice_length (c : List AV) (o : Nat) (l : List AV) (h : o + l.length ≤ c.length) : (splice c o l).length = c.length := by
  unfold splice; simp; omega

theorem AH.set_get (h : AH) (b : Nat) (o : Option AObj) (x : Nat) : (h.set b o).get x = if x = b then o else h.get x := rfl
theorem AH.new_get (h : AH) (o : AObj) (x : Nat) : (h.new o).get x = if x = h.next then some o else h.get x := rfl

/-- A block of cells is turned: what is asked of the new world. -/
theorem Sim.turn {m : Mp} {h : AH} {w w' : World} (s : Sim m h w) {b : Nat} {fz : Nat} {el : El} {c : List AV} {t : Slot} (hb : h.get b = some (.cells false fz el c)) (ht : m b = some t)
    {fz' : Nat} {c' : List AV} (hz : w.heap.size ≤ w'.heap.size) (hother : ∀ k, k < w.heap.size → k ≠ t.cb → w'.heap[k]? = w.heap[k]?)
    {arr arr' : Array Value} {f f' : Nat × Nat} (hw : w.heap[t.cb]? = some (.cells arr el.t f)) (hw' : w'.heap[t.cb]? = some (.cells arr' el.t f')) (hsz : arr'.size = arr.size)
    (hlen : c'.length ≤ t.room)
    (hc : ∀ i v, c'[i]? = some v → v.one = true ∧ ∃ v', arr'[t.co + i]? = some v' ∧ VRel m v v') (hfz : fz' ≤ c'.length) (hfr : ∀ i, fz' ≤ i → i < t.room → ¬ (f'.1 ≤ t.co + i ∧ t.co + i < f'.2)) (hcl : el.cl = true → f'.1 = f'.2 ∨ (t.co ≤ f'.1 ∧ f'.2 ≤ t.co + fz')) (hwl : el.wh = true → c'.length = c.length) :
    Sim m (h.set b (some (.cells false fz' el c'))) w' := by
  have key : ∀ x o, x ≠ b → (h.set b (some (.cells false fz' el c'))).get x = some o → h.get x = some o := by
    intro x o hne hx; simpa [AH.set, hne] using hx
  have own : ∀ o, (h.set b (some (.cells false fz' el c'))).get b = some o → o = .cells false fz' el c' := by
    intro o hx; simpa [AH.set] using hx.symm
  have nc : ∀ x o u, x ≠ b → h.get x = some o → m x = some u → (∀ ro fz el c, o ≠ .cells ro fz el c) → u.cb ≠ t.cb := by
    intro x o u hne hx hu hn
    exact s.inj x b o _ u t hx hb hne hn hu ht
  have hsame : ∀ x o u, x ≠ b → h.get x = some o → m x = some u → (∀ ro fz el c, o ≠ .cells ro fz el c) → w'.heap[u.cb]? = w.heap[u.cb]? := by
    intro x o u hne hx hu hn
    obtain ⟨u', hu', hl⟩ := s.lies x o hx
    rw [hu] at hu'; cases hu'
    exact hother _ hl (nc x o u hne hx hu hn)
  refine ⟨fun x hx => ⟨?_, (s.top x hx).2⟩, fun x o hx => ?_, fun x ro fz2 el2 c2 u hx hu => ?_, fun x y fz2 el2 c2 ro3 fz3 el3 c3 u v hx hy hne hu hv => ?_, fun x o u hx hn hu => ?_, fun x y o o2 u v hx hy hne hn hu hv => ?_⟩
  · have hne : x ≠ b := fun e => by have := (s.top x hx).1; rw [e, hb] at this; cases this
    simpa [AH.set, hne] using (s.top x hx).1
  · by_cases hne : x = b
    · subst hne; obtain ⟨u, hu, hl⟩ := s.lies x _ hb; exact ⟨u, hu, by omega⟩
    · obtain ⟨u, hu, hl⟩ := s.lies x o (key x o hne hx); exact ⟨u, hu, by omega⟩
  · by_cases hne : x = b
    · subst hne
      cases own _ hx
      rw [ht] at hu; cases hu
      obtain ⟨arr0, lo, hi, h1, h2, h3, h4, h5, h6⟩ := s.cells _ _ _ _ _ _ hb ht
      rw [hw] at h1; cases h1
      exact ⟨arr', f'.1, f'.2, hw', by omega, hlen, hc, fun _ => ⟨hfz, hfr⟩, fun e => ⟨(h6.1 e).1, by rw [hsz, (h6.1 e).2, hwl e]⟩, hcl⟩
    · have hx' := key x _ hne hx
      obtain ⟨arr0, lo, hi, h1, h2, h3, h4, h5, h6⟩ := s.cells _ _ _ _ _ _ hx' hu
      by_cases hcb : u.cb = t.cb
      · have hap := s.disj b x fz el c ro fz2 el2 c2 t u hb hx' (fun e => hne e.symm) ht hu
        exact (hap hcb.symm).elim
      · obtain ⟨u', hu', hl⟩ := s.lies x _ hx'
        rw [hu] at hu'; cases hu'
        exact ⟨arr0, lo, hi, by rw [hother _ hl hcb]; exact h1, h2, h3, h4, h5, h6⟩
  · by_cases hxb : x = b
    · subst hxb
      rw [ht] at hu; cases hu
      exact s.disj x y fz el c ro3 fz3 el3 c3 t v hb (key y _ (fun e => hne e.symm) hy) hne ht hv
    · by_cases hyb : y = b
      · subst hyb
        rw [ht] at hv; cases hv
        exact s.disj x y fz2 el2 c2 false fz el c u t (key x _ hxb hx) hb hne hu ht
      · exact s.disj x y fz2 el2 c2 ro3 fz3 el3 c3 u v (key x _ hxb hx) (key y _ hyb hy) hne hu hv
  · have hne : x ≠ b := fun e => by subst e; exact hn _ _ _ _ (own _ hx)
    rw [hsame x _ u hne (key x _ hne hx) hu hn]; exact s.objs x o u (key x _ hne hx) hn hu
  · have hxb : x ≠ b := fun e => by subst e; exact hn _ _ _ _ (own _ hx)
    by_cases hyb : y = b
    · subst hyb; rw [ht] at hv; cases hv; exact nc x o u hxb (key x _ hxb hx) hu hn
    · exact s.inj x y o o2 u v (key x _ hxb hx) (key y _ hyb hy) hne hn hu hv

theorem Steps.turn {m : Mp} {h : AH} {w w' : World} {b : Nat} {o o' : AObj} {t : Slot} (hb : h.get b = some o) (hf : o.fixed = false) (ht : m b = some t)
    (hz : w.heap.size ≤ w'.heap.size) (hm : w'.os = w.os ∧ w'.tape = w.tape ∧ w'.output = w.output) (hother : ∀ k, k < w.heap.size → k ≠ t.cb → w'.heap[k]? = w.heap[k]?) :
    Steps m h w m (h.set b (some o')) w' := by
  refine ⟨Nat.le_refl _, Mp.le.refl _, hz, hm.1, hm.2.1, hm.2.2, fun k hk hn => hother k hk (fun e => hn b o t hb hf ht e.symm), fun x o2 u hx hf2 hu => .inr ?_, fun x o2 u hx hu => .inr ?_, fun x _ hx => ?_, fun _ _ h => h⟩
  · by_cases hne : x = b
    · subst hne; rw [ht] at hu; cases hu; exact ⟨x, o, t, hb, hf, ht, rfl⟩
    · exact ⟨x, o2, u, by simpa [AH.set, hne] using hx, hf2, hu, rfl⟩
  · by_cases hne : x = b
    · subst hne; rw [ht] at hu; cases hu; exact ⟨x, o, t, hb, ht, rfl⟩
    · exact ⟨x, o2, u, by simpa [AH.set, hne] using hx, hu, rfl⟩
  · have hne : x ≠ b := fun e => by rw [e, hb] at hx; cases hx
    simpa [AH.set, hne] using hx

/-- A write. -/
theorem Sim.wr {m : Mp} {h h' : AH} {w : World} (s : Sim m h w) {p : Pt} {l : List AV} {l' : List Value} (hr : h.wr p l = some h') (hl : VsRel m l l') (h1 : ∀ v ∈ l, v.one = true) :
    ∃ t, m p.b = some t ∧ (∀ j, j < l'.length → (w.cell? ⟨t.cb, t.co + p.o + j, none⟩).isSome = true) ∧ (∀ j, j < l'.length → w.frozen? ⟨t.cb, t.co + p.o + j, none⟩ = false) ∧
      Sim m h' (w.setCells t.cb (t.co + p.o) l') ∧ Steps m h w m h' (w.setCells t.cb (t.co + p.o) l') := by
  unfold AH.wr at hr
  split at hr
  · rename_i fz el c hc
    split at hr
    · rename_i hlen
      cases hr
      obtain ⟨t, ht, hlt⟩ := s.lies _ _ hc
      obtain ⟨arr, lo, hi, hw, hsz, hcl, hcv, hfz, hwh⟩ := s.cells _ _ _ _ _ _ hc ht
      obtain ⟨arr', hw', hs', hg'⟩ := setCells_own l' t.cb (t.co + p.o) w arr el.t (lo, hi) hw
      have hll := hl.length
      refine ⟨t, ht, fun j hj => ?_, fun j hj => ?_, ?_, ?_⟩
      · simp only [World.cell?, hw]; simp; omega
      · simp only [World.frozen?, hw]
        have := (hfz rfl).2 (p.o + j) (by omega) (by omega)
        simp; omega
      · refine s.turn hc ht (by rw [setCells_size]; exact Nat.le_refl _) (fun k _ hk => setCells_other _ _ _ _ _ hk) hw hw' hs' (by rw [splice_length _ _ _ hlen.1]; exact hcl) (fun i v hv => ?_) (by rw [splice_length _ _ _ hlen.1]; exact (hfz rfl).1) (hfz rfl).2 hwh.2 (fun _ => splice_length _ _ _ hlen.1)
        · rw [splice_get _ _ _ hlen.1] at hv
          split at hv
          · rename_i hin
            obtain ⟨v', b1, b2⟩ := hl.get hv
            refine ⟨h1 v (List.mem_of_getElem? hv), v', ?_, b2⟩
            rw [hg', if_pos (by omega), show t.co + i - (t.co + p.o) = i - p.o by omega]; exact b1
          · rename_i hnin
            obtain ⟨a1, v', a2, a3⟩ := hcv i v hv
            have : i < c.length := (List.getElem?_eq_some_iff.1 hv).1
            refine ⟨a1, v', ?_, a3⟩
            rw [hg', if_neg (by omega)]; exact a2
      · exact Steps.turn hc rfl ht (by rw [setCells_size]; exact Nat.le_refl _) (setCells_misc _ _ _ _) (fun k _ hk => setCells_other _ _ _ _ _ hk)
    · simp at hr
  · simp at hr

def Mp.ins (m : Mp) (b : Nat) (s : Slot) : Mp := fun x => if x = b then some s else m x
theorem Mp.le_ins {m : Mp} {b : Nat} {s : Slot} (h : m b = none) : m.le (m.ins b s) := by
  intro x t hx; unfold Mp.ins; split
  · rename_i e; rw [e, h] at hx; cases hx
  · exact hx

/-- A new object, of whatever kind. -/
theorem Sim.make {m : Mp} {h : AH} {w : World} (s : Sim m h w) {o : AObj} {ob : Obj} {t : Slot} (ht : t.cb = w.heap.size)
    (hcells : ∀ ro fz el c, o = .cells ro fz el c → CellsOk (m.ins h.next t) (w.alloc ob) t ro fz el c)
    (hobj : (∀ ro fz el c, o ≠ .cells ro fz el c) → t.co = 0 ∧ ObjRel (m.ins h.next t) o ob) :
    Sim (m.ins h.next t) (h.new o) (w.alloc ob) ∧ Steps m h w (m.ins h.next t) (h.new o) (w.alloc ob) := by
  have hnext := s.top h.next (Nat.le_refl _)
  have hle : m.le (m.ins h.next t) := Mp.le_ins hnext.2
  have hnew : (w.alloc ob).heap[t.cb]? = some ob := by rw [ht]; show (w.heap.push ob)[w.heap.size]? = _; simp
  have hold : ∀ k, k < w.heap.size → (w.alloc ob).heap[k]? = w.heap[k]? := fun k hk => Below.heap_alloc _ _ _ hk
  have key : ∀ x u, x ≠ h.next → (h.new o).get x = some u → h.get x = some u := by intro x u hne hx; simpa [AH.new, hne] using hx
  have own : ∀ u, (h.new o).get h.next = some u → u = o := by intro u hx; simpa [AH.new] using hx.symm
  have mown : ∀ u, (m.ins h.next t) h.next = some u → u = t := by intro u hu; simpa [Mp.ins] using hu.symm
  have mold : ∀ x u, x ≠ h.next → (m.ins h.next t) x = some u → m x = some u := by intro x u hne hu; simpa [Mp.ins, hne] using hu
  have lt : ∀ x q u, x ≠ h.next → h.get x = some q → m x = some u → u.cb < w.heap.size := by
    intro x q u _ hq hu; obtain ⟨u', hu', hl⟩ := s.lies x q hq; rw [hu] at hu'; cases hu'; exact hl
  have hsz : (w.alloc ob).heap.size = w.heap.size + 1 := by show (w.heap.push ob).size = _; simp
  refine ⟨⟨fun x hx => ?_, fun x q hx => ?_, fun x ro fz el c u hx hu => ?_, fun x y fz2 el2 c2 ro3 fz3 el3 c3 u v hx hy hne hu hv => ?_, fun x q u hx hn hu => ?_, fun x y q q2 u v hx hy hne hn hu hv => ?_⟩, ?_⟩
  · have hx' : h.next + 1 ≤ x := hx
    have := s.top x (by omega)
    simp [AH.new, Mp.ins, show x ≠ h.next by omega, this.1, this.2]
  · by_cases hne : x = h.next
    · subst hne; exact ⟨t, by simp [Mp.ins], by omega⟩
    · obtain ⟨u, hu, hl⟩ := s.lies x q (key x q hne hx); exact ⟨u, hle _ _ hu, by omega⟩
  · by_cases hne : x = h.next
    · subst hne; cases mown _ hu; exact hcells _ _ _ _ (own _ hx).symm
    · have hx' := key x _ hne hx; have hu' := mold x u hne hu
      obtain ⟨arr0, lo, hi, h1, h2, h3, h4, h5⟩ := s.cells _ _ _ _ _ _ hx' hu'
      exact ⟨arr0, lo, hi, by rw [hold _ (lt x _ u hne hx' hu')]; exact h1, h2, h3, fun i v hv => let ⟨a, v', b, c⟩ := h4 i v hv; ⟨a, v', b, c.mono hle⟩, h5⟩
  · by_cases hxn : x = h.next
    · subst hxn
      cases mown _ hu
      have hy' := key y _ (fun e => hne e.symm) hy; have hv' := mold y v (fun e => hne e.symm) hv
      intro e; have := lt y _ v (fun e => hne e.symm) hy' hv'; omega
    · by_cases hyn : y = h.next
      · subst hyn; cases mown _ hv
        intro e; have := lt x _ u hxn (key x _ hxn hx) (mold x u hxn hu); omega
      · exact s.disj x y fz2 el2 c2 ro3 fz3 el3 c3 u v (key x _ hxn hx) (key y _ hyn hy) hne (mold x u hxn hu) (mold y v hyn hv)
  · by_cases hne : x = h.next
    · subst hne; cases mown _ hu; cases own _ hx
      obtain ⟨a1, a2⟩ := hobj hn
      exact ⟨a1, ob, hnew, a2⟩
    · have hx' := key x _ hne hx; have hu' := mold x u hne hu
      obtain ⟨a1, ob1, a2, a3⟩ := s.objs x q u hx' hn hu'
      exact ⟨a1, ob1, by rw [hold _ (lt x _ u hne hx' hu')]; exact a2, a3.mono hle⟩
  · by_cases hxn : x = h.next
    · subst hxn; cases mown _ hu
      have := lt y _ v (fun e => hne e.symm) (key y _ (fun e => hne e.symm) hy) (mold y v (fun e => hne e.symm) hv); omega
    · by_cases hyn : y = h.next
      · subst hyn; cases mown _ hv
        have := lt x _ u hxn (key x _ hxn hx) (mold x u hxn hu); omega
      · exact s.inj x y q q2 u v (key x _ hxn hx) (key y _ hyn hy) hne hn (mold x u hxn hu) (mold y v hyn hv)
  · refine ⟨Nat.le_succ _, hle, by omega, rfl, rfl, rfl, fun k hk _ => hold k hk, fun x q u hx hf hu => ?_, fun x q u hx hu => ?_, fun x hx hn => by simpa [AH.new, show x ≠ h.next by omega] using hn, fun x hx hn => by simpa [Mp.ins, show x ≠ h.next by omega] using hn⟩
    · by_cases hne : x = h.next
      · subst hne; cases mown _ hu; left; omega
      · exact .inr ⟨x, q, u, key x q hne hx, hf, mold x u hne hu, rfl⟩
    · by_cases hne : x = h.next
      · subst hne; cases mown _ hu; left; omega
      · exact .inr ⟨x, q, u, key x q hne hx, mold x u hne hu, rfl⟩

/-- A new block of cells; behind those that are known there may be others. -/
theorem Sim.newCells {m : Mp} {h : AH} {w : World} (s : Sim m h w) {l : List AV} {l' more : List Value} (ro : Bool) (fz : Nat) (el : El) (hl : VsRel m l l') (h1 : ∀ v ∈ l, v.one = true) (hfz : fz ≤ l.length) (hwh : el.wh = true → more = []) :
    Sim (m.ins h.next ⟨w.heap.size, 0, l'.length + more.length⟩) (h.new (.cells ro fz el l)) (w.alloc (.cells (l' ++ more).toArray el.t (0, 0))) ∧
    Steps m h w (m.ins h.next ⟨w.heap.size, 0, l'.length + more.length⟩) (h.new (.cells ro fz el l)) (w.alloc (.cells (l' ++ more).toArray el.t (0, 0))) := by
  have hle : m.le (m.ins h.next ⟨w.heap.size, 0, l'.length + more.length⟩) := Mp.le_ins (s.top h.next (Nat.le_refl _)).2
  refine s.make rfl (fun ro' fz' el' c e => ?_) (fun e => (e _ _ _ _ rfl).elim)
  cases e
  refine ⟨(l' ++ more).toArray, 0, 0, by show (w.heap.push _)[w.heap.size]? = _; simp, by simp, by simp [hl.length], fun i v hv => ⟨h1 v (List.mem_of_getElem? hv), ?_⟩, fun _ => ⟨hfz, fun i _ _ => by simp⟩, fun e => ⟨rfl, by rw [hwh e]; simp [hl.length]⟩, fun _ => .inl rfl⟩
  obtain ⟨v', a1, a2⟩ := hl.get hv
  have hi : i < l'.length := (List.getElem?_eq_some_iff.1 a1).1
  exact ⟨v', by simp [List.getElem?_append_left hi, a1], a2.mono hle⟩
/-- A block that lies in the world, at a place of its own, under a name that was kept for it. -/
theorem Sim.revive {m : Mp} {h : AH} {w : World} (s : Sim m h w) {b : Nat} {t : Slot} {el : El} {c : List AV} (hb : b < h.next) (hg : h.get b = none) (hm : m b = some t) (hlt : t.cb < w.heap.size)
    (hc : CellsOk m w t false 0 el c) (hno : ∀ x o u, h.get x = some o → m x = some u → u.cb ≠ t.cb) : Sim m (h.set b (some (.cells false 0 el c))) w := by
  have key : ∀ x o, x ≠ b → (h.set b (some (.cells false 0 el c))).get x = some o → h.get x = some o := fun x o hne hx => by simpa [AH.set, hne] using hx
  have own : ∀ o, (h.set b (some (.cells false 0 el c))).get b = some o → o = .cells false 0 el c := fun o ho => by simpa [AH.set] using ho.symm
  refine ⟨fun x hx => ?_, fun x o hx => ?_, fun x ro fz el2 c2 u hx hu => ?_, fun x y fz el2 c2 ro3 fz3 el3 c3 u v hx hy hne hu hv => ?_, fun x o u hx hn hu => ?_, fun x y o o2 u v hx hy hne hn hu hv => ?_⟩
  · have hx' : h.next ≤ x := hx
    have := s.top x hx'
    refine ⟨?_, this.2⟩
    simp only [AH.set]; rw [if_neg (by omega)]; exact this.1
  · by_cases hne : x = b
    · subst hne; exact ⟨t, hm, hlt⟩
    · exact s.lies x o (key x o hne hx)
  · by_cases hne : x = b
    · subst hne; cases own _ hx; rw [hm] at hu; cases hu; exact hc
    · exact s.cells x ro fz el2 c2 u (key x _ hne hx) hu
  · by_cases hxb : x = b
    · subst hxb; rw [hm] at hu; cases hu
      exact fun e => hno y _ v (key y _ (fun e => hne e.symm) hy) hv e.symm
    · by_cases hyb : y = b
      · subst hyb; rw [hm] at hv; cases hv
        exact hno x _ u (key x _ hxb hx) hu
      · exact s.disj x y fz el2 c2 ro3 fz3 el3 c3 u v (key x _ hxb hx) (key y _ hyb hy) hne hu hv
  · by_cases hne : x = b
    · subst hne; exact (hn _ _ _ _ (own _ hx)).elim
    · exact s.objs x o u (key x _ hne hx) hn hu
  · by_cases hxb : x = b
    · subst hxb; exact (hn _ _ _ _ (own _ hx)).elim
    · by_cases hyb : y = b
      · subst hyb; rw [hm] at hv; cases hv; exact hno x _ u (key x _ hxb hx) hu
      · exact s.inj x y o o2 u v (key x _ hxb hx) (key y _ hyb hy) hne hn hu hv
theorem Steps.revive {m0 m : Mp} {h0 h : AH} {w0 w : World} (st : Steps m0 h0 w0 m h w) {b : Nat} {t : Slot} {o : AObj} (hb : h0.next ≤ b) (hm : m b = some t) (hge : w0.heap.size ≤ t.cb) : Steps m0 h0 w0 m (h.set b (some o)) w := by
  refine ⟨st.next, st.map, st.size, st.os, st.tape, st.out, st.keep, fun x q u hx hf hu => ?_, fun x q u hx hu => ?_, fun x hx hn => ?_, st.anon⟩
  · by_cases hne : x = b
    · subst hne; rw [hm] at hu; cases hu; exact .inl hge
    · exact st.live x q u (by simpa [AH.set, hne] using hx) hf hu
  · by_cases hne : x = b
    · subst hne; rw [hm] at hu; cases hu; exact .inl hge
    · exact st.kin x q u (by simpa [AH.set, hne] using hx) hu
  · have : x ≠ b := by omega
    simpa [AH.set, this] using st.gone x hx hn
end Go.La
/- Layer A, part 3: kinds of cells, types, and the operations that only look. -/
namespace Go.La
open Go Go.RowKit

inductive K1 where
  | bool | int (k : IntKind) | str | ptr | slice (sz : Nat) | map | fn | ifc
  deriving DecidableEq
structure Sl where
  a : Option Pt
  len : Nat
@[reducible] def K1.den : K1 → Type
  | .bool => Bool
  | .int _ => Int
  | .str => Str
  | .ptr => Option Pt
  | .slice _ => Sl
  | .map => Option Nat
  | .fn => AV
  | .ifc => AV
def K1.enc : (k : K1) → k.den → AV
  | .bool, b => .bool b
  | .int k, n => .int k n
  | .str, s => .str s
  | .ptr, p => .ptr p
  | .slice sz, s => .slice s.a s.len sz
  | .map, r => .map r
  | .fn, f => f
  | .ifc, f => f
def K1.zero : K1 → AV
  | .bool => .bool false
  | .int k => .int k 0
  | .str => .str []
  | .ptr => .ptr none
  | .slice sz => .slice none 0 sz
  | .map => .map none
  | .fn => .nilFunc
  | .ifc => .nilIface
@[reducible] def Tup : List K1 → Type
  | [] => Unit
  | [k] => k.den
  | k :: l :: r => k.den × Tup (l :: r)
def encTup : (ks : List K1) → Tup ks → List AV
  | [], _ => []
  | [k], x => [k.enc x]
  | k :: l :: r, x => k.enc x.1 :: encTup (l :: r) x.2
theorem encTup_length : ∀ (ks : List K1) (x : Tup ks), (encTup ks x).length = ks.length
  | [], _ => rfl
  | [_], _ => rfl
  | _ :: l :: r, x => by simp [encTup, encTup_length (l :: r) x.2]

/-- What a type is, as far as it is asked for. -/
inductive TD where
  | other
  | ptr (e : TypeId)
  | map (k e : TypeId)
  | slice (esz : Nat) (el : TypeId)
  | arr (n esz : Nat) (eagg : Bool)
  | struct (fs : List (Nat × Nat × Bool)) (flat : Bool)
inductive TI where
  | plain (agg : Bool) (ks : List K1) (d : TD)
  | tuple (l : List (Bool × List K1))
  | uptr
inductive TT where
  | leaf
  | node (l : TT) (k : Nat) (v : TI) (r : TT)
def TT.find : TT → Nat → Option TI
  | .leaf, _ => none
  | .node l k v r, t => bif Nat.beq t k then some v else bif Nat.blt t k then l.find t else r.find t
def TT.all (p : Nat → TI → Bool) : TT → Bool
  | .leaf => true
  | .node l k v r => p k v && l.all p && r.all p
theorem TT.find_all {p : Nat → TI → Bool} : ∀ {t : TT}, t.all p = true → ∀ {k : Nat} {v : TI}, t.find k = some v → p k v = true
  | .leaf, _, _, _, h => by simp [TT.find] at h
  | .node l k v r, ha, x, y, h => by
    simp only [TT.all, Bool.and_eq_true] at ha
    simp only [TT.find] at h
    cases h1 : Nat.beq x k with
    | true => simp [h1] at h; have := Nat.eq_of_beq_eq_true h1; subst this; subst h; exact ha.1.1
    | false =>
      simp only [h1, cond_false] at h
      cases h2 : Nat.blt x k with
      | true => simp only [h2, cond_true] at h; exact TT.find_all ha.1.2 h
      | false => simp only [h2, cond_false] at h; exact TT.find_all ha.2 h

/-- A constant of the code. -/
def ofK : Value → AV
  | .bool b => .bool b
  | .int k n => .int k n
  | .string s => .str s.data.toList
  | .pointer none => .ptr none
  | .map none => .map none
  | .nilFunc => .nilFunc
  | .nilIface => .nilIface
  | .slice none 0 0 => .slice none 0 0
  | _ => .dead
theorem ofK_rel (m : Mp) (v : Value) : VRel m (ofK v) v := by
  unfold ofK
  split <;> constructor

def AV.cellsA : AV → List AV
  | .agg l => l
  | v => [v]
theorem VRel.cellsA {m : Mp} {v : AV} {v' : Value} (h : VRel m v v') (hd : v.one = true ∨ ∃ l, v = .agg l) : VsRel m v.cellsA v'.cells.toList := by
  rcases hd with hd | ⟨l, rfl⟩
  · have h0 := h
    cases h <;> simp [AV.one] at hd <;> exact .cons _ _ _ _ h0 .nil
  · cases h with | agg l a h => exact h

def needSome {α : Type} (o : Option α) (K : α → Prop) : Prop :=
  match o with
  | some a => K a
  | none => False
theorem needSome_iff {α : Type} {o : Option α} {K : α → Prop} : needSome o K ↔ ∃ a, o = some a ∧ K a := by
  cases o <;> simp [needSome]

/-- The value of a type, of its cells. -/
def mkv (agg : Bool) (l : List AV) : AV :=
  match agg, l with
  | true, l => .agg l
  | false, [v] => v
  | false, _ => .dead

def isAggD : TypeDesc → Bool
  | .struct _ | .array _ _ => true
  | _ => false
def kindOk : K1 → TypeDesc → Bool
  | .bool, .bool => true
  | .int k, .int k' => k == k'
  | .str, .string => true
  | .ptr, .pointer _ => true
  | .slice _, .slice _ => true
  | .map, .map _ _ => true
  | .fn, .func _ _ _ => true
  | .ifc, .interface _ => true
  | _, _ => false
def zeroIs : K1 → Value → Bool
  | .bool, .bool false => true
  | .int k, .int k' 0 => k == k'
  | .str, .string s => s.data.toList.isEmpty
  | .ptr, .pointer none => true
  | .slice _, .slice none 0 0 => true
  | .map, .map none => true
  | .fn, .nilFunc => true
  | .ifc, .nilIface => true
  | _, _ => false
def zerosAre : List K1 → List Value → Bool
  | [], [] => true
  | k :: r, v :: s => zeroIs k v && zerosAre r s
  | _, _ => false
def fieldOk (P : Program) (f : Field) (x : Nat × Nat × Bool) : Bool :=
  f.offset == x.1 && (match P.info? f.type with | some i => i.size == x.2.1 | none => false) && (match P.underlying f.type with | some d => isAggD d == x.2.2 | none => false)
def fieldsOk (P : Program) : List Field → List (Nat × Nat × Bool) → Bool
  | [], [] => true
  | f :: r, x :: s => fieldOk P f x && fieldsOk P r s
  | _, _ => false
/-- Kinds whose values are held against one another at once. -/
def K1.basic : K1 → Bool
  | .bool | .int _ | .str => true
  | _ => false
def flatFields (P : Program) : List Field → List K1 → Nat → Bool
  | [], [], _ => true
  | f :: r, k :: ks, i => f.offset == i && !(f.name == "_") && k.basic && (match P.underlying f.type with | some d => kindOk k d | none => false) && flatFields P r ks (i + 1)
  | _, _, _ => false
def flatOk (P : Program) (t : TypeId) (ks : List K1) (fs : List Field) : Bool := !P.stoodInHeld t && !P.eqGuardType P.depth t && flatFields P fs ks 0
def descOk (P : Program) (t : TypeId) (ks : List K1) (d : TypeDesc) : TD → Bool
  | .other => true
  | .ptr e => (match d with | .pointer e' => e' == e && (P.info? e).isSome | _ => false)
  | .map k e => (match d with | .map k' e' => k' == k && e' == e | _ => false)
  | .slice esz el => (match d with | .slice e => e == el && (match P.info? e with | some i => i.size == esz && decide (i.bytes ≤ 4096) && Nat.blt 0 i.bytes && (match i.zero with | some z => z.cells.size == esz | none => false) | none => false) | _ => false)
  | .arr n esz eagg => (match d with | .array n' e => n == n' && (match P.info? e with | some i => i.size == esz | none => false) && (match P.underlying e with | some d => isAggD d == eagg | none => false) && (eagg || (match ks, P.underlying e with | k :: _, some d => kindOk k d && (!k.basic || !P.eqGuardType P.depth t) | _, _ => true)) | _ => false)
  | .struct fs flat => (match d with | .struct gs => fieldsOk P gs.toList fs && (!flat || flatOk P t ks gs.toList) | _ => false)
/-- Has each cell of a variable of the type a place among its bytes? -/
def bytesAll (P : Program) (t : TypeId) : Nat → Bool
  | 0 => true
  | n + 1 => (byteOfCell P P.depth t n).isSome && bytesAll P t n
def tchk (P : Program) (t : TypeId) : TI → Bool
  | .plain agg ks d =>
    (match P.info? t with | some i => i.size == ks.length && (match i.zero with | some z => zerosAre ks z.cells.toList && (match z with | .agg _ => agg | _ => !agg) | none => false) | none => false) &&
    (match P.underlying t with | some u => isAggD u == agg && (agg || (match ks with | [k] => kindOk k u | _ => false)) && descOk P t ks u d && bytesAll P t ks.length | none => false)
  | .tuple _ => true
  | .uptr => (match P.underlying t with | some .unsafePointer => true | _ => false)
/-- The table tells the program's types. -/
def TabOk (P : Program) (ty : TT) : Prop := ty.all (tchk P) = true

structure PlainOk (P : Program) (t : TypeId) (agg : Bool) (ks : List K1) (d : TD) : Prop where
  size : ∃ i, P.info? t = some i ∧ i.size = ks.length ∧ ∃ z, i.zero = some z ∧ zerosAre ks z.cells.toList = true ∧ (agg = true → ∃ a, z = .agg a) ∧ (agg = false → ∀ a, z ≠ .agg a)
  desc : ∃ u, P.underlying t = some u ∧ isAggD u = agg ∧ (agg = false → ∃ k, ks = [k] ∧ kindOk k u = true) ∧ descOk P t ks u d = true
  bytes : bytesAll P t ks.length = true
theorem TabOk.plain {P : Program} {ty : TT} (h : TabOk P ty) {t : TypeId} {agg : Bool} {ks : List K1} {d : TD} (hf : ty.find t = some (.plain agg ks d)) : PlainOk P t agg ks d := by
  have := TT.find_all h hf
  simp only [tchk, Bool.and_eq_true] at this
  obtain ⟨h1, h2⟩ := this
  refine ⟨?_, ?_, ?_⟩
  · cases hi : P.info? t with
    | none => simp [hi] at h1
    | some i =>
      simp only [hi, Bool.and_eq_true, beq_iff_eq] at h1
      obtain ⟨hs, hz⟩ := h1
      cases hz' : i.zero with
      | none => simp [hz'] at hz
      | some z =>
        simp only [hz', Bool.and_eq_true] at hz
        refine ⟨i, rfl, hs, z, hz', hz.1, fun e => ?_, fun e => ?_⟩
        · subst e; cases z <;> simp at hz <;> exact ⟨_, rfl⟩
        · subst e; intro a e; subst e; simp at hz
  · cases hu : P.underlying t with
    | none => simp [hu] at h2
    | some u =>
      simp only [hu, Bool.and_eq_true, beq_iff_eq, Bool.or_eq_true] at h2
      refine ⟨u, rfl, h2.1.1.1, fun e => ?_, h2.1.2⟩
      rcases h2.1.1.2 with h3 | h3
      · rw [e] at h3; cases h3
      · split at h3
        · rename_i k; exact ⟨k, rfl, h3⟩
        · cases h3
  · cases hu : P.underlying t with
    | none => simp [hu] at h2
    | some u =>
      simp only [hu, Bool.and_eq_true] at h2
      exact h2.2
theorem TabOk.uptr {P : Program} {ty : TT} (h : TabOk P ty) {t : TypeId} (hf : ty.find t = some .uptr) : P.underlying t = some .unsafePointer := by
  have := TT.find_all h hf
  simp only [tchk] at this
  split at this
  · assumption
  · cases this
theorem zerosAre_rel (m : Mp) : ∀ {ks : List K1} {l : List Value}, zerosAre ks l = true → VsRel m (ks.map K1.zero) l
  | [], [], _ => .nil
  | k :: r, v :: s, h => by
    simp only [zerosAre, Bool.and_eq_true] at h
    refine .cons _ _ _ _ ?_ (zerosAre_rel m h.2)
    have h1 := h.1
    unfold zeroIs at h1
    split at h1 <;> simp at h1
    · exact .bool _
    · subst h1; exact .int _ _
    · rename_i s0
      have : (Value.string s0) = .string ⟨([] : List UInt8).toArray⟩ := by cases s0; simp_all
      rw [this]; exact .str _
    · exact .pnil
    · exact .snil _
    · exact .mnil
    · exact .fnil
    · exact .inil
  | [], _ :: _, h => by simp [zerosAre] at h
  | _ :: _, [], h => by simp [zerosAre] at h
end Go.La
/- Layer A, part 4: the operations that only look: what is asked, and that it is enough. -/
namespace Go.La
open Go Go.RowKit


def beqCells : List AV → List AV → Bool
  | [], [] => true
  | .int _ a :: r, .int _ b :: s => (a == b) && beqCells r s
  | .str a :: r, .str b :: s => (a == b) && beqCells r s
  | .bool a :: r, .bool b :: s => (a == b) && beqCells r s
  | _, _ => false

/-- Are the cells of these kinds? -/
def fitsK : List K1 → List AV → Bool
  | [], [] => true
  | .int k :: ks, .int k' _ :: r => decide (k = k') && fitsK ks r
  | .str :: ks, .str _ :: r => fitsK ks r
  | .bool :: ks, .bool _ :: r => fitsK ks r
  | _, _ => false

/-- Arithmetic and comparisons of two whole numbers of one kind. -/
def intW (op : BinOp) (k : IntKind) (x y : Int) (K : AV → Prop) : Prop :=
  match op with
  | .add => K (.int k (k.wrap (x + y)))
  | .sub => K (.int k (k.wrap (x - y)))
  | .mul => K (.int k (k.wrap (x * y)))
  | .quo => y ≠ 0 ∧ K (.int k (k.wrap (x.tdiv y)))
  | .rem => y ≠ 0 ∧ K (.int k (x.tmod y))
  | .and => K (.int k (k.wrap (BitVec.ofInt k.bits x &&& BitVec.ofInt k.bits y).toNat))
  | .or => K (.int k (k.wrap (BitVec.ofInt k.bits x ||| BitVec.ofInt k.bits y).toNat))
  | .xor => K (.int k (k.wrap (BitVec.ofInt k.bits x ^^^ BitVec.ofInt k.bits y).toNat))
  | .andNot => K (.int k (k.wrap (BitVec.ofInt k.bits x &&& ~~~BitVec.ofInt k.bits y).toNat))
  | .eql => K (.bool (x == y))
  | .neq => K (.bool (x != y))
  | .lss => K (.bool (decide (x < y)))
  | .leq => K (.bool (decide (x ≤ y)))
  | .gtr => K (.bool (decide (x > y)))
  | .geq => K (.bool (decide (x ≥ y)))
  | _ => False
def strW (op : BinOp) (x y : Str) (K : AV → Prop) : Prop :=
  match op with
  | .add => x.length + y.length < 2 ^ 62 ∧ K (.str (x ++ y))
  | .eql => K (.bool (x == y))
  | .neq => K (.bool (!(x == y)))
  | .lss => K (.bool (Op.bytesLess x y))
  | .leq => K (.bool (Op.bytesLess x y || x == y))
  | .gtr => K (.bool !(Op.bytesLess x y || x == y))
  | .geq => K (.bool !(Op.bytesLess x y))
  | _ => False
def eqW (op : BinOp) (b : Bool) (K : AV → Prop) : Prop :=
  match op with
  | .eql => K (.bool b)
  | .neq => K (.bool (!b))
  | _ => False
def binW (ty : TT) (op : BinOp) (t : TypeId) (a b : AV) (K : AV → Prop) : Prop :=
  match a, b with
  | .int k x, .int k' y =>
    match op with
    | .shl => 0 ≤ y ∧ K (.int k (k.wrap (x * 2 ^ (min y.toNat k.bits))))
    | .shr => 0 ≤ y ∧ K (.int k (x.fdiv (2 ^ (min y.toNat k.bits))))
    | op => bif decide (k = k') then intW op k x y K else False
  | .str x, .str y => strW op x y K
  | .bool x, .bool y => match ty.find t with | some (.plain false [.bool] _) => eqW op (x == y) K | _ => False
  | .ptr q, .ptr none => match ty.find t with | some (.plain false [.ptr] _) => eqW op q.isNone K | _ => False
  | .ptr (some p), .ptr (some q) => match ty.find t with | some (.plain false [.ptr] (.ptr _)) => p = q ∧ eqW op true K | _ => False
  | .slice q _ _, .slice none 0 _ => match ty.find t with | some (.plain false [.slice _] _) => eqW op q.isNone K | _ => False
  | .map q, .map none => match ty.find t with | some (.plain false [.map] _) => eqW op q.isNone K | _ => False
  | .agg x, .agg y =>
    match ty.find t with
    | some (.plain true ks (.struct _ true)) => bif fitsK ks x && fitsK ks y then eqW op (beqCells x y) K else False
    | some (.plain true (k :: _) (.arr n 1 false)) => bif k.basic && fitsK (List.replicate n k) x && fitsK (List.replicate n k) y then eqW op (beqCells x y) K else False
    | _ => False
  | _, _ => False

def BinOk (P : Program) (op : BinOp) (t : TypeId) (a b v : AV) : Prop :=
  ∀ (m : Mp) (w : World) (a' b' : Value) (ox oy : Operand), VRel m a a' → VRel m b b' →
    ∃ v', (do eqGuard op t ox oy a' b'; binOp op t a' b').run P w = .ok v' w ∧ VRel m v v'

theorem BinOk.int {P : Program} {t : TypeId} {op : BinOp} {k k' : IntKind} {x y n : Int} (h : ∀ w : World, (binOp op t (.int k x) (.int k' y)).run P w = .ok (.int k n) w) : BinOk P op t (.int k x) (.int k' y) (.int k n) := by
  intro m w a' b' ox oy ha hb
  cases ha; cases hb
  refine ⟨_, ?_, .int k n⟩
  have : (eqGuard op t ox oy (.int k x) (.int k' y)).run P w = .ok () w := by cases op <;> simp [eqGuard]
  simp only [Sem.run_bind, this, Result.andThen_ok, h]
theorem BinOk.intB {P : Program} {t : TypeId} {op : BinOp} {k k' : IntKind} {x y : Int} {b : Bool} (h : ∀ w : World, (binOp op t (.int k x) (.int k' y)).run P w = .ok (.bool b) w) : BinOk P op t (.int k x) (.int k' y) (.bool b) := by
  intro m w a' b' ox oy ha hb
  cases ha; cases hb
  refine ⟨_, ?_, .bool b⟩
  have : (eqGuard op t ox oy (.int k x) (.int k' y)).run P w = .ok () w := by cases op <;> simp [eqGuard]
  simp only [Sem.run_bind, this, Result.andThen_ok, h]

theorem intW_ok {P : Program} {t : TypeId} {op : BinOp} {k : IntKind} {x y : Int} {K : AV → Prop} (h : intW op k x y K) (h1 : op ≠ .shl) (h2 : op ≠ .shr) :
    ∃ v, K v ∧ BinOk P op t (.int k x) (.int k y) v := by
  cases op with
  | add => exact ⟨_, h, .int fun w => by simp [binOp, Op.intArith]⟩
  | sub => exact ⟨_, h, .int fun w => by simp [binOp, Op.intArith]⟩
  | mul => exact ⟨_, h, .int fun w => by simp [binOp, Op.intArith]⟩
  | quo => exact ⟨_, h.2, .int fun w => by simp [binOp, Op.intDiv, h.1]⟩
  | rem => exact ⟨_, h.2, .int fun w => by simp [binOp, Op.intDiv, h.1]⟩
  | and => exact ⟨_, h, .int fun w => by simp [binOp, Op.intBits]⟩
  | or => exact ⟨_, h, .int fun w => by simp [binOp, Op.intBits]⟩
  | xor => exact ⟨_, h, .int fun w => by simp [binOp, Op.intBits]⟩
  | andNot => exact ⟨_, h, .int fun w => by simp [binOp, Op.intBits]⟩
  | eql => exact ⟨_, h, .intB fun w => by simp [binOp, Op.intCmp]⟩
  | neq => exact ⟨_, h, .intB fun w => by simp [binOp, Op.intCmp]⟩
  | lss => exact ⟨_, h, .intB fun w => by simp [binOp, Op.intCmp]⟩
  | leq => exact ⟨_, h, .intB fun w => by simp [binOp, Op.intCmp]⟩
  | gtr => exact ⟨_, h, .intB fun w => by simp [binOp, Op.intCmp]⟩
  | geq => exact ⟨_, h, .intB fun w => by simp [binOp, Op.intCmp]⟩
  | shl => exact absurd rfl h1
  | shr => exact absurd rfl h2

theorem BinOk.str {P : Program} {t : TypeId} {op : BinOp} {x y : Str} {v : AV} {v' : Value} (hv : ∀ m, VRel m v v') (h : ∀ w : World, (Op.stringOp op ⟨x.toArray⟩ ⟨y.toArray⟩).run P w = .ok v' w) : BinOk P op t (.str x) (.str y) v := by
  intro m w a' b' ox oy ha hb
  cases ha; cases hb
  refine ⟨_, ?_, hv m⟩
  have : (eqGuard op t ox oy (.string ⟨x.toArray⟩) (.string ⟨y.toArray⟩)).run P w = .ok () w := by cases op <;> simp [eqGuard]
  have h2 : (binOp op t (.string ⟨x.toArray⟩) (.string ⟨y.toArray⟩)).run P w = (Op.stringOp op ⟨x.toArray⟩ ⟨y.toArray⟩).run P w := by cases op <;> rfl
  simp only [Sem.run_bind, this, Result.andThen_ok, h2, h]

theorem strW_ok {P : Program} {t : TypeId} {op : BinOp} {x y : Str} {K : AV → Prop} (h : strW op x y K) : ∃ v, K v ∧ BinOk P op t (.str x) (.str y) v := by
  cases op with
  | add =>
    refine ⟨_, h.2, .str (v' := .string ⟨(x ++ y).toArray⟩) (fun m => .str _) fun w => ?_⟩
    have h1 := h.1
    have h3 : (⟨x.toArray⟩ ++ ⟨y.toArray⟩ : ByteArray) = ⟨(x ++ y).toArray⟩ := by
      apply ByteArray.ext; simp
    have h4 : ¬ (((ByteArray.mk x.toArray).size + (ByteArray.mk y.toArray).size : Nat) : Int) > IntKind.i64.max := by
      simp [ByteArray.size, IntKind.max, IntKind.bits, IntKind.signed]; omega
    simp only [Op.stringOp, if_neg h4, h3]; rfl
  | eql => exact ⟨_, h, .str (fun m => .bool _) fun w => by simp [Op.stringOp]⟩
  | neq => exact ⟨_, h, .str (fun m => .bool _) fun w => by simp [Op.stringOp]⟩
  | lss => exact ⟨_, h, .str (fun m => .bool _) fun w => by simp [Op.stringOp]⟩
  | leq => exact ⟨_, h, .str (fun m => .bool _) fun w => by simp [Op.stringOp]⟩
  | gtr => exact ⟨_, h, .str (fun m => .bool _) fun w => by simp [Op.stringOp]⟩
  | geq => exact ⟨_, h, .str (fun m => .bool _) fun w => by simp [Op.stringOp]⟩
  | _ => exact h.elim

theorem eqW_ok {P : Program} {t : TypeId} {op : BinOp} {a b : AV} {r : Bool} {K : AV → Prop} (h : eqW op r K)
    (he : ∀ (m : Mp) (w : World) (a' b' : Value), VRel m a a' → VRel m b b' → (Op.equal t a' b').run P w = .ok r w ∧ (∀ ox oy, (eqGuard op t ox oy a' b').run P w = .ok () w) ∧
      (binOp .eql t a' b' = do pure (.bool (← Op.equal t a' b'))) ∧ (binOp .neq t a' b' = do pure (.bool (!(← Op.equal t a' b'))))) : ∃ v, K v ∧ BinOk P op t a b v := by
  cases op with
  | eql =>
    refine ⟨_, h, fun m w a' b' ox oy ha hb => ⟨.bool r, ?_, .bool r⟩⟩
    obtain ⟨h1, h2, h3, h4⟩ := he m w a' b' ha hb
    simp only [Sem.run_bind, h2, Result.andThen_ok, h3, h1]; rfl
  | neq =>
    refine ⟨_, h, fun m w a' b' ox oy ha hb => ⟨.bool (!r), ?_, .bool (!r)⟩⟩
    obtain ⟨h1, h2, h3, h4⟩ := he m w a' b' ha hb
    simp only [Sem.run_bind, h2, Result.andThen_ok, h4, h1]; rfl
  | _ => exact h.elim

/-! ### Structs whose fields are numbers, texts and bools -/
theorem flat_eq {P : Program} (w : World) (m : Mp) (d : Nat) : ∀ (fs : List Field) (ks : List K1) (i : Nat) (xs ys : List AV) (xa ya : Array Value), flatFields P fs ks i = true →
    VsRel m xs (xa.toList.drop i) → VsRel m ys (ya.toList.drop i) → fitsK ks xs = true → fitsK ks ys = true →
    (Op.eqFields (d + 1) xa ya fs).run P w = .ok (beqCells xs ys) w
  | [], ks, i, xs, ys, xa, ya, hf, _, _, hx, hy => by
    cases ks <;> simp [flatFields] at hf
    cases xs <;> simp [fitsK] at hx
    cases ys <;> simp [fitsK] at hy
    simp [Op.eqFields, beqCells]
  | f :: fs, [], i, xs, ys, xa, ya, hf, hrx, hry, hx, hy => by simp [flatFields] at hf
  | f :: fs, k :: ks, i, xs, ys, xa, ya, hf, hrx, hry, hx, hy => by
    simp only [flatFields, Bool.and_eq_true, beq_iff_eq, Bool.not_eq_true'] at hf
    obtain ⟨⟨⟨⟨ho, hn⟩, hkb⟩, hb⟩, hf⟩ := hf
    cases hu : P.underlying f.type with
    | none => simp [hu] at hb
    | some u =>
      simp only [hu] at hb
      cases xs with
      | nil => cases k <;> simp [fitsK] at hx
      | cons x xs =>
        cases ys with
        | nil => cases k <;> simp [fitsK] at hy
        | cons y ys =>
          cases hxd : xa.toList.drop i with
          | nil => rw [hxd] at hrx; cases hrx
          | cons xv xr =>
            cases hyd : ya.toList.drop i with
            | nil => rw [hyd] at hry; cases hry
            | cons yv yr =>
              rw [hxd] at hrx; rw [hyd] at hry
              cases hrx with | cons _ _ _ _ r1 r2 => cases hry with | cons _ _ _ _ q1 q2 =>
              have gx : xa[i]? = some xv := by have := congrArg (·[0]?) hxd; simpa using this
              have gy : ya[i]? = some yv := by have := congrArg (·[0]?) hyd; simpa using this
              have dx : xa.toList.drop (i + 1) = xr := by rw [← List.drop_drop, hxd]; rfl
              have dy : ya.toList.drop (i + 1) = yr := by rw [← List.drop_drop, hyd]; rfl
              have hagg : isAggD u = false := by cases k <;> cases u <;> simp [kindOk, K1.basic] at hb hkb <;> rfl
              have pa : ∀ (cs : Array Value) (c : Value), cs[i]? = some c → (part f.type cs f.offset).run P w = .ok c w := by
                intro cs c hc
                have : (isAgg f.type).run P w = .ok false w := by
                  simp only [isAgg, Sem.run_bind, run_underlying hu, Result.andThen_ok]
                  cases u <;> simp [isAggD] at hagg <;> rfl
                simp [part, this, ho, hc]
              have eq1 : ∃ r : Bool, (Op.equalIn (d + 1) f.type xv yv).run P w = .ok r w ∧ beqCells (x :: xs) (y :: ys) = (r && beqCells xs ys) ∧ fitsK ks xs = true ∧ fitsK ks ys = true := by
                cases k <;> simp [K1.basic] at hkb
                · cases x <;> simp [fitsK] at hx; cases y <;> simp [fitsK] at hy
                  cases u <;> simp [kindOk] at hb
                  cases r1; cases q1
                  exact ⟨_, run_equalIn_bool' w d _ _ _ hu, rfl, hx, hy⟩
                · cases x <;> simp [fitsK] at hx; cases y <;> simp [fitsK] at hy
                  cases u <;> simp [kindOk] at hb
                  obtain ⟨rfl, hx⟩ := hx; obtain ⟨rfl, hy⟩ := hy
                  cases r1; cases q1
                  exact ⟨_, run_equalIn_int w d _ _ _ _ _ hu, rfl, hx, hy⟩
                · cases x <;> simp [fitsK] at hx; cases y <;> simp [fitsK] at hy
                  cases u <;> simp [kindOk] at hb
                  cases r1; cases q1
                  exact ⟨_, run_equalIn_string w d _ _ _ hu, by simp [beqCells], hx, hy⟩
              obtain ⟨r, e1, e2, hx', hy'⟩ := eq1
              rw [e2, Op.eqFields]
              have hn' : f.name ≠ "_" := by simpa using hn
              have ih := flat_eq w m d fs ks (i + 1) xs ys xa ya hf (by rw [dx]; exact r2) (by rw [dy]; exact q2) hx' hy'
              simp only [if_pos hn', Sem.run_bind, pa _ _ gx, pa _ _ gy, e1, Result.andThen_ok]
              cases r
              · simp
              · simpa using ih

theorem equal_same_ptr {P : Program} (w : World) (d : Nat) {t e : TypeId} (a : Addr) (hu : P.underlying t = some (.pointer e)) {i : TypeInfo} (hi : P.info? e = some i) :
    (Op.equalIn (d + 1) t (.pointer (some a)) (.pointer (some a))).run P w = .ok true w := by
  have h1 : (sameAddr a a).run P w = .ok true w := by simp [sameAddr]
  simp only [Op.equalIn, Sem.run_bind, run_underlying hu, Result.andThen_ok, run_sizeOf w hi]
  split
  · exact h1
  · simp

theorem items_eq {P : Program} (w : World) (m : Mp) (d : Nat) {e : TypeId} {u : TypeDesc} (hu : P.underlying e = some u) {k : K1} (hkb : k.basic = true) (hb : kindOk k u = true) : ∀ (n i : Nat) (xs ys : List AV) (xa ya : Array Value),
    VsRel m xs (xa.toList.drop i) → VsRel m ys (ya.toList.drop i) → fitsK (List.replicate n k) xs = true → fitsK (List.replicate n k) ys = true →
    (Op.eqItems (d + 1) e 1 xa ya (List.range' i n)).run P w = .ok (beqCells xs ys) w
  | 0, i, xs, ys, xa, ya, _, _, hx, hy => by
    cases xs <;> simp [fitsK] at hx
    cases ys <;> simp [fitsK] at hy
    simp [Op.eqItems, beqCells]
  | n + 1, i, xs, ys, xa, ya, hrx, hry, hx, hy => by
    rw [List.replicate_succ] at hx hy
    cases xs with
    | nil => cases k <;> simp [fitsK] at hx
    | cons x xs =>
      cases ys with
      | nil => cases k <;> simp [fitsK] at hy
      | cons y ys =>
        cases hxd : xa.toList.drop i with
        | nil => rw [hxd] at hrx; cases hrx
        | cons xv xr =>
          cases hyd : ya.toList.drop i with
          | nil => rw [hyd] at hry; cases hry
          | cons yv yr =>
            rw [hxd] at hrx; rw [hyd] at hry
            cases hrx with | cons _ _ _ _ r1 r2 => cases hry with | cons _ _ _ _ q1 q2 =>
            have gx : xa[i]? = some xv := by have := congrArg (·[0]?) hxd; simpa using this
            have gy : ya[i]? = some yv := by have := congrArg (·[0]?) hyd; simpa using this
            have dx : xa.toList.drop (i + 1) = xr := by rw [← List.drop_drop, hxd]; rfl
            have dy : ya.toList.drop (i + 1) = yr := by rw [← List.drop_drop, hyd]; rfl
            have hagg : isAggD u = false := by cases k <;> cases u <;> simp [kindOk, K1.basic] at hb hkb <;> rfl
            have pa : ∀ (cs : Array Value) (c : Value), cs[i]? = some c → (part e cs (i * 1)).run P w = .ok c w := by
              intro cs c hc
              have : (isAgg e).run P w = .ok false w := by
                simp only [isAgg, Sem.run_bind, run_underlying hu, Result.andThen_ok]
                cases u <;> simp [isAggD] at hagg <;> rfl
              simp [part, this, hc]
            have eq1 : ∃ r : Bool, (Op.equalIn (d + 1) e xv yv).run P w = .ok r w ∧ beqCells (x :: xs) (y :: ys) = (r && beqCells xs ys) ∧ fitsK (List.replicate n k) xs = true ∧ fitsK (List.replicate n k) ys = true := by
              cases k <;> simp [K1.basic] at hkb
              · cases x <;> simp [fitsK] at hx; cases y <;> simp [fitsK] at hy
                cases u <;> simp [kindOk] at hb
                cases r1; cases q1
                exact ⟨_, run_equalIn_bool' w d _ _ _ hu, rfl, hx, hy⟩
              · cases x <;> simp [fitsK] at hx; cases y <;> simp [fitsK] at hy
                cases u <;> simp [kindOk] at hb
                obtain ⟨rfl, hx⟩ := hx; obtain ⟨rfl, hy⟩ := hy
                cases r1; cases q1
                exact ⟨_, run_equalIn_int w d _ _ _ _ _ hu, rfl, hx, hy⟩
              · cases x <;> simp [fitsK] at hx; cases y <;> simp [fitsK] at hy
                cases u <;> simp [kindOk] at hb
                cases r1; cases q1
                exact ⟨_, run_equalIn_string w d _ _ _ hu, by simp [beqCells], hx, hy⟩
            obtain ⟨r, e1, e2, hx', hy'⟩ := eq1
            have ih := items_eq w m d hu hkb hb n (i + 1) xs ys xa ya (by rw [dx]; exact r2) (by rw [dy]; exact q2) hx' hy'
            rw [e2, List.range'_succ, Op.eqItems]
            simp only [Sem.run_bind, pa _ _ gx, pa _ _ gy, e1, Result.andThen_ok]
            cases r
            · simp
            · simpa using ih

theorem binW_ok {P : Program} {ty : TT} (T : TabOk P ty) {op : BinOp} {t : TypeId} {a b : AV} {K : AV → Prop} (h : binW ty op t a b K) : ∃ v, K v ∧ BinOk P op t a b v := by
  unfold binW at h
  split at h
  · rename_i k x k' y
    split at h
    · refine ⟨_, h.2, .int fun w => ?_⟩
      have : ¬ y < 0 := by omega
      simp [binOp, Op.shift, this]
    · refine ⟨_, h.2, .int fun w => ?_⟩
      have : ¬ y < 0 := by omega
      simp [binOp, Op.shift, this]
    · rename_i h1 h2
      by_cases e : k = k'
      · subst e; simp only [decide_true, cond_true] at h
        exact intW_ok h (fun e => h1 e) (fun e => h2 e)
      · simp [e] at h
  · exact strW_ok h
  · rename_i x y
    split at h
    · rename_i d hf
      obtain ⟨u, hu, -, hk, -⟩ := (T.plain hf).desc
      obtain ⟨k, e1, hk⟩ := hk rfl
      cases e1
      cases u <;> simp [kindOk] at hk
      refine eqW_ok h fun m w a' b' ha hb => ?_
      cases ha; cases hb
      exact ⟨run_equal_bool w t x y hu, fun ox oy => by cases op <;> simp [eqGuard], rfl, rfl⟩
    · exact h.elim
  · rename_i q
    split at h
    · rename_i d hf
      obtain ⟨u, hu, -, hk, -⟩ := (T.plain hf).desc
      obtain ⟨k, e1, hk⟩ := hk rfl
      cases e1
      cases u <;> simp [kindOk] at hk
      rename_i e
      have hp : P.underlying t = some (.pointer (P.pointee t)) := by rw [hu]; simp [Program.pointee, hu]
      refine eqW_ok h fun m w a' b' ha hb => ?_
      cases hb
      cases ha with
      | pnil => exact ⟨run_equal_pointer_nil w t _ hp, fun ox oy => by cases op <;> simp [eqGuard], rfl, rfl⟩
      | ptr p s hs => exact ⟨run_equal_pointer_nil w t _ hp, fun ox oy => by cases op <;> simp [eqGuard], rfl, rfl⟩
    · exact h.elim
  · rename_i p q
    split at h
    · rename_i e hf
      obtain ⟨u, hu, -, hk, hd⟩ := (T.plain hf).desc
      obtain ⟨h1, h2⟩ := h
      subst h1
      cases u <;> simp [descOk] at hd
      obtain ⟨rfl, hi⟩ := hd
      rename_i e
      obtain ⟨i, hi⟩ := Option.isSome_iff_exists.1 hi
      refine eqW_ok h2 fun m w a' b' ha hb => ?_
      cases ha with | ptr _ s hs => cases hb with | ptr _ s' hs' =>
      rw [hs] at hs'; cases hs'
      refine ⟨?_, fun ox oy => by cases op <;> simp [eqGuard], rfl, rfl⟩
      exact equal_same_ptr w 9999 (s.addr p.o) hu hi
    · exact h.elim
  · rename_i q l sz1 sz2
    split at h
    · rename_i sz d hf
      obtain ⟨u, hu, -, hk, -⟩ := (T.plain hf).desc
      obtain ⟨k, e1, hk⟩ := hk rfl
      cases e1
      cases u <;> simp [kindOk] at hk
      refine eqW_ok h fun m w a' b' ha hb => ?_
      cases hb
      cases ha with
      | snil => exact ⟨run_equal_slice_nil w t _ _ _ _ hu, fun ox oy => by cases op <;> simp [eqGuard], rfl, rfl⟩
      | slice p _ _ a cap s hs => exact ⟨run_equal_slice_nil w t _ _ _ _ hu, fun ox oy => by cases op <;> simp [eqGuard], rfl, rfl⟩
    · exact h.elim
  · rename_i q
    split at h
    · rename_i d hf
      obtain ⟨u, hu, -, hk, -⟩ := (T.plain hf).desc
      obtain ⟨k, e1, hk⟩ := hk rfl
      cases e1
      cases u <;> simp [kindOk] at hk
      refine eqW_ok h fun m w a' b' ha hb => ?_
      cases hb
      cases ha with
      | mnil => exact ⟨run_equal_map_nil w t _ _ _ hu, fun ox oy => by cases op <;> simp [eqGuard], rfl, rfl⟩
      | map p s hs => exact ⟨run_equal_map_nil w t _ _ _ hu, fun ox oy => by cases op <;> simp [eqGuard], rfl, rfl⟩
    · exact h.elim
  · rename_i x y
    split at h
    · rename_i ks fs hf
      obtain ⟨u, hu, ha, -, hd⟩ := (T.plain hf).desc
      cases u <;> simp [descOk] at hd
      rename_i gs
      have hflat := hd.2
      simp only [flatOk, Bool.and_eq_true, Bool.not_eq_true'] at hflat
      obtain ⟨⟨f1, f2⟩, f3⟩ := hflat
      cases hfit : (fitsK ks x && fitsK ks y) with
      | false => simp [hfit] at h
      | true =>
        simp only [hfit, cond_true] at h
        simp only [Bool.and_eq_true] at hfit
        refine eqW_ok h fun m w a' b' ha hb => ?_
        cases ha with | agg _ xa rx => cases hb with | agg _ ya ry =>
        have hfo : P.fieldsOf t = gs := by simp [Program.fieldsOf, hu]
        refine ⟨?_, fun ox oy => run_eqGuard_agg w op t ox oy xa ya f2, rfl, rfl⟩
        have := run_equalIn_struct (P := P) w 9999 t xa ya (by rw [hfo]; exact hu) f1
        rw [Op.equal, Op.maxDepth, this, hfo]
        exact flat_eq w m 9998 gs.toList ks 0 x y xa ya f3 (by simpa using rx) (by simpa using ry) hfit.1 hfit.2
    · rename_i k ks n hf
      obtain ⟨u, hu, ha, -, hd⟩ := (T.plain hf).desc
      cases u <;> simp [descOk] at hd
      rename_i n' e
      obtain ⟨⟨⟨rfl, h1⟩, h2⟩, h3⟩ := hd
      cases hi : P.info? e with
      | none => simp [hi] at h1
      | some i =>
        simp [hi] at h1
        cases hue : P.underlying e with
        | none => simp [hue] at h2
        | some ue =>
          simp only [hue, Bool.false_or, beq_iff_eq, Bool.and_eq_true, Bool.or_eq_true, Bool.not_eq_true'] at h2 h3
          cases hfit : (k.basic && fitsK (List.replicate n k) x && fitsK (List.replicate n k) y) with
          | false => simp [hfit] at h
          | true =>
            simp only [hfit, cond_true] at h
            simp only [Bool.and_eq_true] at hfit
            refine eqW_ok h fun m w a' b' ha hb => ?_
            cases ha with | agg _ xa rx => cases hb with | agg _ ya ry =>
            have hg : P.eqGuardType P.depth t = false := h3.2.resolve_left (by rw [hfit.1.1]; simp)
            refine ⟨?_, fun ox oy => run_eqGuard_agg w op t ox oy xa ya hg, rfl, rfl⟩
            have := run_equalIn_array (P := P) (w := w) 9999 xa ya hu hi
            rw [Op.equal, Op.maxDepth, this]
            have hc : P.cellsOf e = 1 := by simp [Program.cellsOf, hi, h1]
            rw [hc, List.range_eq_range']
            exact items_eq w m 9998 hue hfit.1.1 h3.1 n 0 x y xa ya (by simpa using rx) (by simpa using ry) hfit.1.2 hfit.2
    · exact h.elim
  · exact h.elim
end Go.La
/- Layer A: maps, what is said of them. -/
namespace Go.La
open Go Go.RowKit

/-- What keeps the value of an operation that only looks: nothing, or a fact of the heap. -/
abbrev Re := Option (AH → Prop)
def tt : Re := none
def Re.at (re : Re) (h : AH) : Prop := match re with | none => True | some f => f h

/-- The kinds of a key's cells, if keys of the type are held against one another at once. -/
def keyKs (ty : TT) (kt : TypeId) : Option (Bool × List K1) :=
  match ty.find kt with
  | some (.plain false [k] _) => bif k.basic then some (false, [k]) else none
  | some (.plain true ks (.struct _ true)) => some (true, ks)
  | _ => none
def fitKey (agg : Bool) (ks : List K1) (v : AV) : Bool :=
  match agg, v with
  | true, .agg l => fitsK ks l
  | true, _ => false
  | false, v => fitsK ks [v]
def allKeys (agg : Bool) (ks : List K1) : List (AV × AV × Nat) → Bool
  | [] => true
  | x :: r => fitKey agg ks x.1 && allKeys agg ks r
def keyEq (a b : AV) : Bool := beqCells a.cellsA b.cellsA
def findI (k : AV) : List (AV × AV × Nat) → Nat → Option (Nat × AV)
  | [], _ => none
  | x :: r, i => bif keyEq k x.1 then some (i, x.2.1) else findI k r (i + 1)

/-- What a lookup hands back. -/
def lookRes (ok : Bool) (v : AV) (b : Bool) : AV :=
  match ok with
  | true => .tuple [v, .bool b]
  | false => v
def lookupW (ty : TT) (xt : TypeId) (x k : AV) (ok : Bool) (h : AH) (K : AV → Re → Prop) : Prop :=
  match ty.find xt with
  | some (.plain _ _ (.map kt et)) =>
    match keyKs ty kt, ty.find et with
    | some (kagg, kks), some (.plain eagg eks _) =>
      bif fitKey kagg kks k then
        match x with
        | .map none => K (lookRes ok (mkv eagg (eks.map K1.zero)) false) tt
        | .map (some b) => ∃ es clk, h.get b = some (.map es clk) ∧ allKeys kagg kks es = true ∧
            K (match findI k es 0 with | some (_, v) => lookRes ok v true | none => lookRes ok (mkv eagg (eks.map K1.zero)) false) (some fun h' => ∃ clk, h'.get b = some (.map es clk))
        | _ => False
      else False
    | _, _ => False
  | _ => False

def updI (k v : AV) : List (AV × AV × Nat) → List (AV × AV × Nat)
  | [] => []
  | x :: r => bif keyEq k x.1 then (k, v, x.2.2) :: r else x :: updI k v r
def bornI (k : AV) : List (AV × AV × Nat) → Nat
  | [] => 0
  | x :: r => bif keyEq k x.1 then x.2.2 else bornI k r
def delI (k : AV) : List (AV × AV × Nat) → List (AV × AV × Nat)
  | [] => []
  | x :: r => bif keyEq k x.1 then r else x :: delI k r
def storeI (n : Nat) (v : AV) : List (AV × AV × Nat) → Option (List (AV × AV × Nat))
  | [] => none
  | x :: r => bif Nat.beq x.2.2 n then some ((x.1, v, x.2.2) :: r) else (match storeI n v r with | some q => some (x :: q) | none => none)

/-! ### The operations on maps that write -/
def mapUpW (ty : TT) (mt : TypeId) (x k v : AV) (h : AH) (K : AV → AH → Prop) : Prop :=
  match ty.find mt with
  | some (.plain _ _ (.map kt _)) =>
    match keyKs ty kt with
    | some (kagg, kks) =>
      bif fitKey kagg kks k then
        match x with
        | .map (some b) => ∃ es clk, h.get b = some (.map es clk) ∧ allKeys kagg kks es = true ∧
            K .dead (h.set b (some (match findI k es 0 with | some _ => .map (updI k v es) clk | none => .map (es ++ [(k, v, clk)]) (clk + 1))))
        | _ => False
      else False
    | none => False
  | _ => False
def mapEntryW (ty : TT) (mt : TypeId) (x k : AV) (h : AH) (K : AV → AH → Prop) : Prop :=
  match ty.find mt with
  | some (.plain _ _ (.map kt et)) =>
    match keyKs ty kt, ty.find et with
    | some (kagg, kks), some (.plain eagg eks _) =>
      bif fitKey kagg kks k then
        match x with
        | .map (some b) => ∃ es clk, h.get b = some (.map es clk) ∧ allKeys kagg kks es = true ∧
            (match findI k es 0 with
             | some (_, v) => K (.tuple [v, .int .i64 (bornI k es)]) (h.set b (some (.map (updI k v es) clk)))
             | none => K (.tuple [mkv eagg (eks.map K1.zero), .int .i64 clk]) (h.set b (some (.map (es ++ [(k, mkv eagg (eks.map K1.zero), clk)]) (clk + 1)))))
        | _ => False
      else False
    | _, _ => False
  | _ => False
def entryStoreW (x st v : AV) (h : AH) (K : AV → AH → Prop) : Prop :=
  match x, st with
  | .map (some b), .int _ n => 0 ≤ n ∧ ∃ es clk q, h.get b = some (.map es clk) ∧ storeI n.toNat v es = some q ∧ K .dead (h.set b (some (.map q clk)))
  | _, _ => False
def deleteW (ty : TT) (mt : TypeId) (x k : AV) (h : AH) (K : AV → AH → Prop) : Prop :=
  match ty.find mt with
  | some (.plain _ _ (.map kt _)) =>
    match keyKs ty kt with
    | some (kagg, kks) =>
      bif fitKey kagg kks k then
        match x with
        | .map (some b) => ∃ es clk, h.get b = some (.map es clk) ∧ allKeys kagg kks es = true ∧ K (.tuple []) (h.set b (some (.map (delI k es) clk)))
        | .map none => K (.tuple []) h
        | _ => False
      else False
    | none => False
  | _ => False
/-- What is asked of it. -/
def appendZ (ty : TT) (t t2 : TypeId) (x y : AV) (h : AH) (K : AV → AH → Prop) : Prop :=
  match ty.find t, ty.find t2, x, y with
  | some (.plain false _ (.slice esz el)), some (.plain false [.int _] _), .slice none _ _, .int _ n =>
    match ty.find el with
    | some (.plain _ ks _) => 0 < n ∧ n < 4294967296 ∧ (bif Nat.beq ks.length esz && Nat.blt 0 esz then
        K (.slice (some ⟨h.next, 0⟩) n.toNat esz) (h.new (.cells false 0 ⟨el, false, true⟩ ((List.replicate n.toNat (ks.map K1.zero)).flatten))) else False)
    | _ => False
  | _, _, _, _ => False
def clearW (ty : TT) (t : TypeId) (x : AV) (h : AH) (K : AV → AH → Prop) : Prop :=
  match ty.find t, x with
  | some (.plain false _ (.slice _ _)), .slice none _ _ => K (.tuple []) h
  | some (.plain false _ (.slice esz el)), .slice (some p) n sz =>
    match ty.find el with
    | some (.plain _ ks _) => bif Nat.beq esz sz && Nat.beq ks.length esz then (n = 0 → K (.tuple []) h) ∧ (0 < n → ∃ h', h.wr p ((List.replicate n (ks.map K1.zero)).flatten) = some h' ∧ K (.tuple []) h') else False
    | _ => False
  | _, _ => False
/-- A text out of bytes that are not to be written any more. -/
def byteC (b : UInt8) : AV := .int .u8 b.toNat
def ustW (ty : TT) (pt : TypeId) (p n : AV) (h : AH) (K : AV → AH → Prop) : Prop :=
  match ty.find pt, n with
  | some (.plain false [.ptr] (.ptr u)), .int _ n =>
    match ty.find u with
    | some (.plain false [.int .u8] _) => 0 ≤ n ∧ n ≤ 9223372036854775807 ∧ (n = 0 → (∃ q, p = .ptr q) ∧ K (.str []) h) ∧
        (0 < n → match p with
          | .ptr (some a) => ∃ fz el c s, h.get a.b = some (.cells false fz el c) ∧ el.cl = true ∧ el.t = u ∧ a.o + n.toNat ≤ c.length ∧ (c.drop a.o).take n.toNat = s.map byteC ∧
              K (.str s) (h.set a.b (some (.cells false (max fz (a.o + n.toNat)) el c)))
          | _ => False)
    | _ => False
  | _, _ => False
end Go.La
/- Layer A, part 5: each operation that only looks: what is asked, and that it is enough. -/
namespace Go.La
open Go Go.RowKit

def ev (t : List AV) : Operand → AV
  | .tmp i => t.getD i .dead
  | .const v => ofK v
  | .func f => .func (.func f) [] []
  | .global _ => .dead

/-- What an operation that only looks comes to: whatever the world, if it is what the abstract heap says. -/
def LOk (P : Program) (o : Oper) (e : Operand → AV) (h : AH) (v : AV) : Prop :=
  ∀ (m : Mp) (w : World) (ρ : Operand → Value), Sim m h w → (∀ x ∈ o.op.operands, VRel m (e x) (ρ x)) → ∃ v', (execOp ρ o).run P w = .ok (.value v') w ∧ VRel m v v'

/-! ### Parts put together -/
def fillA (place : Nat → Option (Nat × Nat)) (cells : List AV) : List (Nat × AV) → Option (List AV)
  | [] => some cells
  | (i, v) :: rest =>
    match place i with
    | none => none
    | some (off, size) => bif Nat.beq v.cellsA.length size && Nat.ble (off + size) cells.length then fillA place (splice cells off v.cellsA) rest else none
def goodParts : List (Nat × AV) → Bool
  | [] => true
  | (_, v) :: r => (match v with | .agg _ => true | v => v.one) && goodParts r

theorem foldl_set_get : ∀ (l : List Value) (k off : Nat) (cs : Array Value) (i : Nat),
    ((l.zipIdx k).foldl (fun (cs : Array Value) (x : Value × Nat) => cs.setIfInBounds (off + x.2) x.1) cs)[i]? =
      if off + k ≤ i ∧ i < off + k + l.length ∧ i < cs.size then l[i - (off + k)]? else cs[i]?
  | [], k, off, cs, i => by simp; omega
  | v :: r, k, off, cs, i => by
    simp only [List.zipIdx_cons, List.foldl_cons]
    rw [foldl_set_get r (k + 1) off _ i]
    simp only [Array.size_setIfInBounds, List.length_cons]
    by_cases h2 : off + (k + 1) ≤ i ∧ i < off + (k + 1) + r.length ∧ i < cs.size
    · rw [if_pos h2, if_pos (by omega), show i - (off + k) = (i - (off + (k + 1))) + 1 by omega, List.getElem?_cons_succ]
    · rw [if_neg h2, Array.getElem?_setIfInBounds]
      by_cases h3 : off + k = i
      · subst h3
        by_cases h4 : off + k < cs.size
        · simp [h4]
        · simp [h4]
      · rw [if_neg h3, if_neg (by omega)]
theorem foldl_set_size : ∀ (l : List (Value × Nat)) (off : Nat) (cs : Array Value), (l.foldl (fun (cs : Array Value) (x : Value × Nat) => cs.setIfInBounds (off + x.2) x.1) cs).size = cs.size
  | [], _, _ => rfl
  | _ :: r, off, cs => by simp [foldl_set_size r off]

theorem fill_rel {m : Mp} {place : Nat → Option (Nat × Nat)} : ∀ (ps : List (Nat × AV)) (qs : List (Nat × Value)) (cells r : List AV) (cs : Array Value),
    fillA place cells ps = some r → goodParts ps = true → VsRel m cells cs.toList → ps.length = qs.length → (∀ (j : Nat) (p : Nat × AV) (q : Nat × Value), ps[j]? = some p → qs[j]? = some q → p.1 = q.1 ∧ VRel m p.2 q.2) →
    ∃ rs, Instr.fill place cs qs = some rs ∧ VsRel m r rs.toList
  | [], [], cells, r, cs, h, _, hr, _, _ => by simp [fillA] at h; subst h; exact ⟨cs, rfl, hr⟩
  | (i, v) :: ps, (j, u) :: qs, cells, r, cs, h, hg, hr, hl, hp => by
    obtain ⟨e1, e2⟩ := hp 0 _ _ rfl rfl
    simp only at e1 e2; subst e1
    simp only [fillA] at h
    simp only [goodParts, Bool.and_eq_true] at hg
    cases hpl : place i with
    | none => simp [hpl] at h
    | some os =>
      obtain ⟨off, size⟩ := os
      simp only [hpl] at h
      cases hc : (Nat.beq v.cellsA.length size && Nat.ble (off + size) cells.length) with
      | false => simp [hc] at h
      | true =>
        simp only [hc, cond_true] at h
        simp only [Bool.and_eq_true] at hc
        have h1 : v.cellsA.length = size := Nat.eq_of_beq_eq_true hc.1
        have h2 : off + size ≤ cells.length := Nat.le_of_ble_eq_true hc.2
        have hcell : VsRel m v.cellsA u.cells.toList := e2.cellsA (by
          have := hg.1
          cases v <;> simp at this <;> first | exact .inl this | exact .inr ⟨_, rfl⟩)
        have hlen := hcell.length
        have hlc := hr.length
        have h3 : u.cells.size = size := by simpa [h1] using hlen.symm
        have hnew : VsRel m (splice cells off v.cellsA) (u.cells.zipIdx.foldl (fun cs (c, j) => cs.setIfInBounds (off + j) c) cs).toList := by
          have hz : u.cells.zipIdx.foldl (fun (cs : Array Value) (x : Value × Nat) => cs.setIfInBounds (off + x.2) x.1) cs = (u.cells.toList.zipIdx 0).foldl (fun (cs : Array Value) (x : Value × Nat) => cs.setIfInBounds (off + x.2) x.1) cs := by
            rw [← Array.foldl_toList]; simp
          show VsRel m _ (u.cells.zipIdx.foldl (fun (cs : Array Value) (x : Value × Nat) => cs.setIfInBounds (off + x.2) x.1) cs).toList
          rw [hz]
          refine VsRel.of_get ?_ fun x a b ha hb => ?_
          · rw [splice_length _ _ _ (by omega)]; simp [foldl_set_size]; simpa using hlc
          · rw [splice_get _ _ _ (by omega)] at ha
            have hb' := hb
            simp only [Array.getElem?_toList] at hb'
            rw [foldl_set_get] at hb'
            have hcs : cs.size = cells.length := by simpa using hlc.symm
            by_cases hin : off ≤ x ∧ x < off + v.cellsA.length
            · rw [if_pos hin] at ha
              rw [if_pos (by simp; omega)] at hb'
              obtain ⟨b', g1, g2⟩ := hcell.get ha
              simp only [Nat.add_zero] at hb'
              rw [g1] at hb'; cases hb'; exact g2
            · rw [if_neg hin] at ha
              rw [if_neg (by simp; omega)] at hb'
              obtain ⟨b', g1, g2⟩ := hr.get ha
              simp only [Array.getElem?_toList] at g1
              rw [g1] at hb'; cases hb'; exact g2
        obtain ⟨rs, i1, i2⟩ := fill_rel ps qs _ r _ h hg.2 hnew (by simpa using hl) (fun k p q a b => hp (k + 1) p q (by simpa using a) (by simpa using b))
        refine ⟨rs, ?_, i2⟩
        have hcs : cs.size = cells.length := by simpa using hlc.symm
        simp only [Instr.fill, hpl]
        rw [if_neg (by simp; omega)]
        exact i1
  | [], _ :: _, _, _, _, _, _, _, hl, _ => by simp at hl
  | _ :: _, [], _, _, _, _, _, _, hl, _ => by simp at hl

/-! ### The operations -/
/-- The cells that a slice shows. -/
def SlAt (h : AH) (p : Option Pt) (n : Nat) (l : List AV) : Prop :=
  match p with
  | none => n = 0 ∧ l = []
  | some a => h.rd a n = some l

def byteA (b : UInt8) : AV := .int .u8 b.toNat
def sliceArgs (len : Nat) (lo hi : Option AV) (K : Nat → Nat → Prop) : Prop :=
  match lo, hi with
  | none, none => K 0 len
  | some (.int _ l), none => 0 ≤ l ∧ l ≤ (len : Int) ∧ K l.toNat len
  | none, some (.int _ r) => 0 ≤ r ∧ r ≤ (len : Int) ∧ K 0 r.toNat
  | some (.int _ l), some (.int _ r) => 0 ≤ l ∧ l ≤ r ∧ r ≤ (len : Int) ∧ K l.toNat r.toNat
  | _, _ => False

def partA (agg : Bool) (l : List AV) (off size : Nat) (K : AV → Prop) : Prop :=
  match agg with
  | true => off + size ≤ l.length ∧ K (.agg ((l.drop off).take size))
  | false => match l[off]? with | some v => K v | none => False

def lenW (ty : TT) (t : TypeId) (x : AV) (h : AH) (K : AV → Re → Prop) : Prop :=
  match ty.find t, x with
  | some (.plain false [.slice _] _), .slice _ len _ => K (.int .i64 len) tt
  | some (.plain _ _ (.map _ _)), .map none => K (.int .i64 0) tt
  | some (.plain _ _ (.map _ _)), .map (some b) => ∃ es clk, h.get b = some (.map es clk) ∧ K (.int .i64 es.length) (some fun h' => ∃ es' clk', h'.get b = some (.map es' clk') ∧ es'.length = es.length)
  | some (.plain false [.str] _), .str s => K (.int .i64 s.length) tt
  | _, _ => False

/-- A type of elements whose cells have places among bytes. -/
def okEl (ty : TT) (el : TypeId) : Bool := match ty.find el with | some (.plain _ ks _) => Nat.blt 0 ks.length | _ => false

/-- A nil slice that is written out, of its type. -/
def nilOr (ty : TT) (t : TypeId) (x : Operand) (v : AV) : AV :=
  match x with
  | .const (.slice none 0 0) =>
    match v with
    | .slice none 0 s => (match ty.find t with | some (.plain false [.slice sz] _) => .slice none 0 sz | _ => .slice none 0 s)
    | v => v
  | _ => v
theorem nilOr_rel {ty : TT} {m : Mp} {t : TypeId} {x : Operand} {v : AV} {v' : Value} (h : VRel m v v') : VRel m (nilOr ty t x v) v' := by
  unfold nilOr
  split
  · split
    · split
      · cases h; exact .snil _
      · exact h
    · exact h
  · exact h

def lightW (P : Program) (ty : TT) (o : Op) (oty : TypeId) (e : Operand → AV) (h : AH) (K : AV → Re → Prop) : Prop :=
  match o with
  | .move x => K (e x) tt
  | .assign x => K (nilOr ty oty x (e x)) tt
  | .pick c a b => (match e c, e a, e b with | .bool c, .bool a, .bool b => K (.bool (cond c a b)) tt | .bool true, a, _ => K a tt | .bool false, _, b => K b tt | _, _, _ => False)
  | .build t ps =>
    match ty.find t with
    | some (.plain true ks (.struct fs _)) =>
      let l := ps.toList.map fun (i, x) => (i, e x)
      (match goodParts l, fillA (fun i => (fs[i]?).map fun f => (f.1, f.2.1)) (ks.map K1.zero) l with | true, some r => K (.agg r) tt | _, _ => False)
    | some (.plain true ks (.arr _ esz _)) =>
      let l := ps.toList.map fun (i, x) => (i, e x)
      (match goodParts l, fillA (fun i => some (i * esz, esz)) (ks.map K1.zero) l with | true, some r => K (.agg r) tt | _, _ => False)
    | _ => False
  | .load t p =>
    match ty.find t, e p with
    | some (.plain agg ks _), .ptr q => needSome q fun a => ∃ x : Tup ks, h.rd a ks.length = some (encTup ks x) ∧ K (mkv agg (encTup ks x)) (some fun h' => h'.rd a ks.length = some (encTup ks x))
    | some (.plain true [] _), .anyptr => K (.agg []) tt
    | _, _ => False
  | .nilCheck x =>
    match e x with
    | .ptr q => needSome q fun a => K (.ptr (some a)) tt
    | .anyptr => K .anyptr tt
    | .func fn l1 l2 => (match fn with | .func f => K (.func (.func f) l1 l2) tt | _ => False)
    | _ => False
  | .binOp op t x y _ => binW ty op t (e x) (e y) fun v => K v tt
  | .unOp op _ x =>
    match op, e x with
    | .not, .bool b => K (.bool !b) tt
    | .neg, .int k n => K (.int k (k.wrap (0 - n))) tt
    | .xor, .int k n => K (.int k (k.wrap (BitVec.ofInt k.bits (if k.signed then -1 else k.max) ^^^ BitVec.ofInt k.bits n).toNat)) tt
    | _, _ => False
  | .convert s d x =>
    match ty.find s, ty.find d, e x with
    | some (.plain _ _ _), some (.plain false [.int k] _), .int _ n => K (.int k (k.wrap n)) tt
    | some (.plain false [.str] _), some (.plain false [.str] _), .str s => K (.str s) tt
    | some (.plain false [.slice _] (.slice 1 el)), some (.plain false [.str] _), .slice p n _ =>
      match ty.find el with
      | some (.plain false [.int .u8] _) => ∃ s : Str, SlAt h p n (s.map byteA) ∧ K (.str s) (some fun h' => SlAt h' p n (s.map byteA))
      | _ => False
    | some (.plain false [.ptr] (.ptr e)), some .uptr, .ptr q => needSome q fun p =>
      (match ty.find e with | some (.plain _ (_ :: _) _) => ∃ c, h.rd p 1 = some c ∧ K (.ptr (some p)) (some fun h' => ∃ c, h'.rd p 1 = some c) | _ => False)
    | some .uptr, some (.plain false [.ptr] (.ptr e)), .ptr q => needSome q fun p =>
      ∃ ro fz el c, h.get p.b = some (.cells ro fz el c) ∧ el.wh = true ∧ liesAt P P.depth el.t (c.length / P.cellsOf el.t) p.o e 1 = true ∧
        K (.ptr (some p)) (some fun h' => ∃ ro fz c', h'.get p.b = some (.cells ro fz el c') ∧ c'.length = c.length)
    | _, _, _ => False
  | .fieldAddr t p i =>
    match ty.find t, e p with
    | some (.plain _ _ (.struct fs _)), .ptr q => needSome q fun a =>
      (match fs[i]? with | some (off, size, _) => bif Nat.beq size 0 then ∃ el, h.el a.b = some el ∧ okEl ty el.t = true ∧ K .anyptr (some fun h' => h'.el a.b = some el) else K (.ptr (some (a.add off))) tt | none => False)
    | _, _ => False
  | .field t x i =>
    match ty.find t, e x with
    | some (.plain _ _ (.struct fs _)), .agg l => (match fs[i]? with | some (off, size, agg) => partA agg l off size fun v => K v tt | none => False)
    | _, _ => False
  | .indexAddr t x i =>
    match ty.find t, e x, e i with
    | some (.plain _ _ (.slice esz _)), .slice p len _, .int _ n => 0 ≤ n ∧ n < (len : Int) ∧ needSome p fun a => K (.ptr (some (a.add (n.toNat * esz)))) tt
    | some (.plain _ _ (.arr len esz _)), .ptr q, .int _ n => 0 ≤ n ∧ n < (len : Int) ∧ needSome q fun a => K (.ptr (some (a.add (n.toNat * esz)))) tt
    | _, _, _ => False
  | .index t x i =>
    match ty.find t, e x, e i with
    | some (.plain false [.str] _), .str s, .int _ n => 0 ≤ n ∧ n < (s.length : Int) ∧ K (.int .u8 (s.getD n.toNat 0).toNat) tt
    | some (.plain _ _ (.arr len esz agg)), .agg l, .int _ n => 0 ≤ n ∧ n < (len : Int) ∧ partA agg l (n.toNat * esz) esz fun v => K v tt
    | _, _, _ => False
  | .slice t x lo hi none =>
    match ty.find t, e x with
    | some (.plain false [.str] _), .str s => sliceArgs s.length (lo.map e) (hi.map e) fun l r => K (.str ((s.take r).drop l)) tt
    | some (.plain _ _ (.slice esz _)), .slice p len sz => bif Nat.beq esz sz then sliceArgs len (lo.map e) (hi.map e) fun l r => K (.slice (p.map fun a => a.add (l * sz)) (r - l) sz) tt else False
    | some (.plain _ _ (.arr n esz _)), .ptr q => needSome q fun a => ∃ c, h.rd a (n * esz) = some c ∧ sliceArgs n (lo.map e) (hi.map e) fun l r => K (.slice (some (a.add (l * esz))) (r - l) esz) (some fun h' => ∃ c, h'.rd a (n * esz) = some c)
    | _, _ => False
  | .extract x i => (match e x with | .tuple l => (match l[i]? with | some v => K v tt | none => False) | _ => False)
  | .lookup xt x k ok => lookupW ty xt (e x) (e k) ok h K
  | .makeFunc fn l1 l2 => (match fn with | .func f => K (.func (.func f) (l1.toList.map e) (l2.toList.map e)) tt | _ => False)
  | .call c =>
    match c.callee with
    | .builtin .len => (match c.argTypes.toList, c.args.toList with | [t], [x] => lenW ty t (e x) h K | _, _ => False)
    | .builtin .cap => (match c.argTypes.toList, c.args.toList with | [t], [x] => (match ty.find t, e x with | some (.plain false [.slice _] (.slice _ _)), .slice none _ _ => K (.int .i64 0) tt | _, _ => False) | _, _ => False)
    | .builtin .unsafeSliceData => (match c.args.toList with | [x] => (match e x with | .slice none _ _ => K (.ptr none) tt | .slice (some p) n _ => 0 < n ∧ K (.ptr (some p)) tt | _ => False) | _ => False)
    | .builtin .max => (match c.args.toList with | [x, y] => (match e x, e y with | .int k a, .int k' b => bif decide (k = k') then K (.int k (if b > a then b else a)) tt else False | _, _ => False) | _ => False)
    | .builtin .min => (match c.args.toList with | [x, y] => (match e x, e y with | .int k a, .int k' b => bif decide (k = k') then K (.int k (if b < a then b else a)) tt else False | _, _ => False) | _ => False)
    | _ => False
  | _ => False
end Go.La
/- Layer A, part 6: what is asked of an operation that only looks is enough. -/
namespace Go.La
open Go Go.RowKit

variable {P : Program} {ty : TT}

theorem PlainOk.sizeRun {t : TypeId} {agg : Bool} {ks : List K1} {d : TD} (h : PlainOk P t agg ks d) (w : World) : (sizeOf t).run P w = .ok ks.length w := by
  obtain ⟨i, hi, hs, -⟩ := h.size
  simp [sizeOf, typeInfo, hi, hs]
theorem PlainOk.aggRun {t : TypeId} {agg : Bool} {ks : List K1} {d : TD} (h : PlainOk P t agg ks d) (w : World) : (isAgg t).run P w = .ok agg w := by
  obtain ⟨u, hu, ha, -⟩ := h.desc
  simp only [isAgg, Sem.run_bind, run_underlying hu, Result.andThen_ok]
  cases u <;> simp [isAggD] at ha <;> subst ha <;> rfl
theorem PlainOk.zeroRun {t : TypeId} {agg : Bool} {ks : List K1} {d : TD} (h : PlainOk P t agg ks d) : ∃ z, (∀ w, (zeroValue t).run P w = .ok z w) ∧ (∀ m, VsRel m (ks.map K1.zero) z.cells.toList) := by
  obtain ⟨i, hi, -, z, hz, hzs, -⟩ := h.size
  exact ⟨z, fun w => by simp [zeroValue, typeInfo, hi, hz], fun m => zerosAre_rel m hzs⟩
theorem PlainOk.slice {t : TypeId} {agg : Bool} {ks : List K1} {esz el : Nat} (h : PlainOk P t agg ks (.slice esz el)) :
    P.underlying t = some (.slice el) ∧ (∀ w, (sizeOf el).run P w = .ok esz w) ∧ (∃ i, P.info? el = some i ∧ i.size = esz ∧ i.bytes ≤ 4096 ∧ 0 < i.bytes) ∧ ∃ z : Value, (∀ w, (zeroValue el).run P w = .ok z w) ∧ z.cells.size = esz := by
  obtain ⟨u, hu, -, -, hd⟩ := h.desc
  cases u <;> simp [descOk] at hd
  rename_i e
  cases hie : P.info? e with
  | none => simp [hie] at hd
  | some ie =>
    simp [hie] at hd
    obtain ⟨rfl, ⟨⟨h1, h2⟩, h3⟩, h4⟩ := hd
    cases hz : ie.zero with
    | none => simp [hz] at h4
    | some z =>
      simp [hz] at h4
      exact ⟨hu, fun w => by simp [sizeOf, typeInfo, hie, h1], ⟨ie, hie, h1, h2, h3⟩, z, fun w => by simp [zeroValue, typeInfo, hie, hz], h4⟩
theorem zeros_one : ∀ (ks : List K1), ∀ v ∈ ks.map K1.zero, v.one = true := by
  intro ks v hv
  simp only [List.mem_map] at hv
  obtain ⟨k, -, rfl⟩ := hv
  cases k <;> rfl

/-- A variable is read. -/
theorem load_run {m : Mp} {h : AH} {w : World} (s : Sim m h w) {t : TypeId} {agg : Bool} {ks : List K1} {d : TD} (hp : PlainOk P t agg ks d) {p : Pt} {l : List AV} (hr : h.rd p ks.length = some l) {sl : Slot} (hm : m p.b = some sl) :
    ∃ v', (Instr.loadAt t (.pointer (some (sl.addr p.o)))).run P w = .ok v' w ∧ VRel m (mkv agg l) v' := by
  obtain ⟨t', l', ht, hlen, hrel, hone, hcell⟩ := s.rd hr
  rw [hm] at ht; cases ht
  have ha := hp.aggRun w
  cases agg with
  | true =>
    refine ⟨.agg l'.toArray, ?_, .agg _ _ (by simpa using hrel)⟩
    have := run_loadCells_list (P := P) w (sl.addr p.o) l' hcell
    rw [hlen] at this
    simp only [Instr.loadAt, Instr.sureAddr, loadVar, Sem.run_bind, Sem.run_pure, Result.andThen_ok, ha, if_true, hp.sizeRun w, this]
  | false =>
    obtain ⟨u, hu, -, hk, -⟩ := hp.desc
    obtain ⟨k, rfl, -⟩ := hk rfl
    simp only [List.length_cons, List.length_nil] at hlen hr
    have hll := hrel.length
    match l', hlen with
    | [v'], _ =>
      match l, hll with
      | [v], _ =>
        cases hrel with | cons _ _ _ _ h1 h2 =>
        refine ⟨v', ?_, h1⟩
        have hc := hcell 0 v' rfl
        have : (sl.addr p.o).add 0 = sl.addr p.o := rfl
        rw [this] at hc
        simp [Instr.loadAt, Instr.sureAddr, loadVar, ha, hc]

theorem LOk.of {o : Oper} {e : Operand → AV} {h : AH} {v : AV} (hh : ∀ (m : Mp) (w : World) (ρ : Operand → Value), Sim m h w → (∀ x ∈ o.op.operands, VRel m (e x) (ρ x)) → ∃ v', (execOp ρ o).run P w = .ok (.value v') w ∧ VRel m v v') : LOk P o e h v := hh

theorem fieldsOk_get : ∀ {gs : List Field} {fs : List (Nat × Nat × Bool)}, fieldsOk P gs fs = true → ∀ {i : Nat} {x : Nat × Nat × Bool}, fs[i]? = some x → ∃ f, gs[i]? = some f ∧ fieldOk P f x = true
  | [], [], _, i, x, h => by simp at h
  | f :: r, x :: s, h, 0, y, e => by simp at e; subst e; simp only [fieldsOk, Bool.and_eq_true] at h; exact ⟨f, rfl, h.1⟩
  | f :: r, x :: s, h, i + 1, y, e => by
    simp only [fieldsOk, Bool.and_eq_true] at h
    simpa using fieldsOk_get h.2 (i := i) (by simpa using e)
  | [], _ :: _, h, _, _, _ => by simp [fieldsOk] at h
  | _ :: _, [], h, _, _, _ => by simp [fieldsOk] at h
theorem fieldsOk_length : ∀ {gs : List Field} {fs : List (Nat × Nat × Bool)}, fieldsOk P gs fs = true → gs.length = fs.length
  | [], [], _ => rfl
  | f :: r, x :: s, h => by simp only [fieldsOk, Bool.and_eq_true] at h; simp [fieldsOk_length h.2]
  | [], _ :: _, h => by simp [fieldsOk] at h
  | _ :: _, [], h => by simp [fieldsOk] at h
theorem fieldOk_run {f : Field} {x : Nat × Nat × Bool} (h : fieldOk P f x = true) (w : World) : f.offset = x.1 ∧ (sizeOf f.type).run P w = .ok x.2.1 w ∧ (isAgg f.type).run P w = .ok x.2.2 w := by
  simp only [fieldOk, Bool.and_eq_true, beq_iff_eq] at h
  obtain ⟨⟨h1, h2⟩, h3⟩ := h
  refine ⟨h1, ?_, ?_⟩
  · cases hi : P.info? f.type with
    | none => simp [hi] at h2
    | some i => simp [hi] at h2; simp [sizeOf, typeInfo, hi, h2]
  · cases hu : P.underlying f.type with
    | none => simp [hu] at h3
    | some u =>
      simp [hu] at h3
      simp only [isAgg, Sem.run_bind, run_underlying hu, Result.andThen_ok]
      cases u <;> simp [isAggD] at h3 <;> rw [← h3] <;> rfl

theorem partA_run {t : TypeId} {agg : Bool} {size off : Nat} {l : List AV} {K : AV → Prop} (h : partA agg l off size K) (hs : ∀ w, (sizeOf t).run P w = .ok size w) (ha : ∀ w, (isAgg t).run P w = .ok agg w) :
    ∃ v, K v ∧ ∀ (w : World) (m : Mp) (a : Array Value), VsRel m l a.toList → ∃ v', (part t a off).run P w = .ok v' w ∧ VRel m v v' := by
  cases agg with
  | true =>
    obtain ⟨h1, h2⟩ := h
    refine ⟨_, h2, fun w m a hr => ⟨.agg (a.extract off (off + size)), ?_, .agg _ _ ?_⟩⟩
    · simp [part, ha, hs]
    · have hl := hr.length
      refine VsRel.of_get (by simp at hl ⊢; omega) fun i v v' g1 g2 => ?_
      have hi : i < size := by have := (List.getElem?_eq_some_iff.1 g1).1; simp at this; omega
      obtain ⟨u, u1, u2⟩ := hr.get (i := off + i) (v := v) (by simpa [hi] using g1)
      simp only [Array.getElem?_toList] at u1 g2
      rw [Array.getElem?_extract] at g2
      have hi2 : i < min (off + size) a.size - off := by simp at hl; omega
      rw [if_pos hi2] at g2
      rw [u1] at g2; cases g2; exact u2
  | false =>
    simp only [partA] at h
    cases hv : l[off]? with
    | none => simp [hv] at h
    | some v =>
      simp only [hv] at h
      refine ⟨v, h, fun w m a hr => ?_⟩
      obtain ⟨v', g1, g2⟩ := hr.get hv
      simp only [Array.getElem?_toList] at g1
      exact ⟨v', by simp [part, ha, g1], g2⟩

theorem sliceArgs_run {len : Nat} {lo hi : Option AV} {K : Nat → Nat → Prop} (h : sliceArgs len lo hi K) :
    ∃ l r, l ≤ r ∧ r ≤ len ∧ K l r ∧ ∀ (m : Mp) (w : World) (b : Bool) (cap : Nat) (lo' hi' : Option Value), len ≤ cap →
      (∀ x, lo = some x → ∃ x', lo' = some x' ∧ VRel m x x') → (lo = none → lo' = none) → (∀ x, hi = some x → ∃ x', hi' = some x' ∧ VRel m x x') → (hi = none → hi' = none) →
      (Instr.sliceBounds b len cap lo' hi' none).run P w = .ok (l, r, cap) w := by
  unfold sliceArgs at h
  split at h
  · refine ⟨0, len, by omega, Nat.le_refl _, h, fun m w b cap lo' hi' hc _ h2 _ h4 => ?_⟩
    rw [h2 rfl, h4 rfl]; simp [Instr.sliceBounds]
  · rename_i k l
    refine ⟨l.toNat, len, by omega, Nat.le_refl _, h.2.2, fun m w b cap lo' hi' hc h1 _ _ h4 => ?_⟩
    obtain ⟨x', e, hx⟩ := h1 _ rfl
    cases hx
    rw [e, h4 rfl]
    have : 0 ≤ l ∧ l ≤ (len : Int) := ⟨h.1, h.2.1⟩
    simp [Instr.sliceBounds, Instr.sliceBound, asIntOf, this]
  · rename_i k r
    refine ⟨0, r.toNat, by omega, by omega, h.2.2, fun m w b cap lo' hi' hc _ h2 h3 _ => ?_⟩
    obtain ⟨x', e, hx⟩ := h3 _ rfl
    cases hx
    rw [e, h2 rfl]
    have : 0 ≤ r ∧ r ≤ (cap : Int) := ⟨h.1, by omega⟩
    simp [Instr.sliceBounds, Instr.sliceBound, asIntOf, this]
  · rename_i k l k' r
    refine ⟨l.toNat, r.toNat, by omega, by omega, h.2.2.2, fun m w b cap lo' hi' hc h1 _ h3 _ => ?_⟩
    obtain ⟨x', e, hx⟩ := h1 _ rfl
    obtain ⟨y', e', hy⟩ := h3 _ rfl
    cases hx; cases hy
    rw [e, e']
    have q1 : 0 ≤ r ∧ r ≤ (cap : Int) := ⟨by omega, by omega⟩
    have q2 : 0 ≤ l ∧ l ≤ r := ⟨h.1, h.2.1⟩
    have q3 : ((r.toNat : Nat) : Int) = r := by omega
    simp [Instr.sliceBounds, Instr.sliceBound, asIntOf, q1, q2, q3]
  · exact h.elim

theorem Slot.addr_add (s : Slot) (o n : Nat) : (s.addr o).add n = s.addr (o + n) := by
  unfold Addr.add Slot.addr; split <;> simp_all [Nat.add_assoc]

theorem byteAll_get {t : TypeId} : ∀ {n : Nat}, bytesAll P t n = true → ∀ {i : Nat}, i < n → ∃ b, byteOfCell P P.depth t i = some b
  | 0, _, _, h => by omega
  | n + 1, hb, i, h => by
    simp only [bytesAll, Bool.and_eq_true] at hb
    by_cases e : i = n
    · subst e; exact Option.isSome_iff_exists.1 hb.1
    · exact byteAll_get hb.2 (by omega)

theorem byteOf_run {m : Mp} {h : AH} {w : World} (s : Sim m h w) {b : Nat} {el : El} (he : h.el b = some el) {agg : Bool} {ks : List K1} {d : TD} (hp : PlainOk P el.t agg ks d) (hk : 0 < ks.length) {sl : Slot} (hm : m b = some sl) (o : Nat) :
    ∃ k, (byteOf (sl.addr o)).run P w = .ok k w := by
  unfold AH.el at he
  split at he
  · rename_i ro fz el' c hc
    cases he
    obtain ⟨arr, lo, hi, hw, -⟩ := s.cells _ _ _ _ _ _ hc hm
    obtain ⟨i, hi', hs, -⟩ := hp.size
    have hco : P.cellsOf el.t = ks.length := by simp [Program.cellsOf, hi', hs]
    have hsh : w.shape? sl.cb = some (el.t, arr.size) := by simp [World.shape?, hw]
    have hlt : (sl.co + o) % ks.length < ks.length := Nat.mod_lt _ hk
    obtain ⟨by', hby⟩ := byteAll_get hp.bytes hlt
    have h0 : ¬ ks.length = 0 := by omega
    refine ⟨(sl.co + o) / ks.length * P.bytesOf el.t + by', ?_⟩
    simp [byteOf, Slot.addr, noView, viewAt, shape, Sem.run, hsh, program, hco, hby, h0]
  · simp at he
end Go.La
/- Layer A: maps: keys, and where an entry is. -/
namespace Go.La
open Go Go.RowKit

variable {P : Program} {ty : TT}

theorem beq_bytes (x y : Str) : ((⟨x.toArray⟩ : ByteArray) == ⟨y.toArray⟩) = (x == y) := by
  show (x.toArray == y.toArray) = (x == y)
  simp

/-- Two keys of a type are held against one another. -/
theorem equal_key (T : TabOk P ty) {kt : TypeId} {agg : Bool} {ks : List K1} (hk : keyKs ty kt = some (agg, ks)) {m : Mp} (w : World) {a b : AV} {a' b' : Value} (ha : VRel m a a') (hb : VRel m b b') (fa : fitKey agg ks a = true) (fb : fitKey agg ks b = true) :
    (Op.equal kt a' b').run P w = .ok (keyEq a b) w := by
  unfold keyKs at hk
  split at hk
  · rename_i k d hf
    cases hb0 : k.basic with
    | false => simp [hb0] at hk
    | true =>
      simp only [hb0, cond_true, Option.some.injEq, Prod.mk.injEq] at hk
      obtain ⟨rfl, rfl⟩ := hk
      obtain ⟨u, hu, -, hk1, -⟩ := (T.plain hf).desc
      obtain ⟨k1, e1, hk1⟩ := hk1 rfl
      cases e1
      simp only [fitKey] at fa fb
      cases k <;> simp [K1.basic] at hb0
      · cases a <;> simp [fitsK] at fa; cases b <;> simp [fitsK] at fb
        cases u <;> simp [kindOk] at hk1
        cases ha; cases hb
        rw [Op.equal, Op.maxDepth, run_equalIn_bool' w 9999 _ _ _ hu]; simp [keyEq, AV.cellsA, beqCells]
      · cases a <;> simp [fitsK] at fa; cases b <;> simp [fitsK] at fb
        cases u <;> simp [kindOk] at hk1
        subst fa; subst fb
        cases ha; cases hb
        rw [Op.equal, Op.maxDepth, run_equalIn_int w 9999 _ _ _ _ _ hu]; simp [keyEq, AV.cellsA, beqCells]
      · cases a <;> simp [fitsK] at fa; cases b <;> simp [fitsK] at fb
        cases u <;> simp [kindOk] at hk1
        cases ha; cases hb
        rw [Op.equal, Op.maxDepth, run_equalIn_string w 9999 _ _ _ hu]; simp [keyEq, AV.cellsA, beqCells]
  · rename_i ks' fs hf
    simp only [Option.some.injEq, Prod.mk.injEq] at hk
    obtain ⟨rfl, rfl⟩ := hk
    obtain ⟨u, hu, -, -, hd⟩ := (T.plain hf).desc
    cases u <;> simp [descOk] at hd
    rename_i gs
    have hflat := hd.2
    simp only [flatOk, Bool.and_eq_true, Bool.not_eq_true'] at hflat
    obtain ⟨⟨f1, f2⟩, f3⟩ := hflat
    cases a <;> simp [fitKey] at fa
    cases b <;> simp [fitKey] at fb
    cases ha with | agg _ xa rx => cases hb with | agg _ ya ry =>
    have hfo : P.fieldsOf kt = gs := by simp [Program.fieldsOf, hu]
    have := run_equalIn_struct (P := P) w 9999 kt xa ya (by rw [hfo]; exact hu) f1
    rw [Op.equal, Op.maxDepth, this, hfo]
    exact flat_eq w m 9998 gs.toList ks' 0 _ _ xa ya f3 (by simpa [AV.cellsA] using rx) (by simpa [AV.cellsA] using ry) fa fb
  · cases hk

theorem findAsking_run (T : TabOk P ty) {kt : TypeId} {agg : Bool} {ks : List K1} (hk : keyKs ty kt = some (agg, ks)) {m : Mp} (w : World) {a : AV} {a' : Value} (ha : VRel m a a') (fa : fitKey agg ks a = true) :
    ∀ (es : List (AV × AV × Nat)) (arr : List MapEntry) (i : Nat), EntRel m es arr → allKeys agg ks es = true →
      ∃ r, (Instr.findAsking kt a' arr i).run P w = .ok r w ∧ (findI a es i = none → r = none) ∧ (∀ j v, findI a es i = some (j, v) → ∃ v', r = some (j, v') ∧ VRel m v v' ∧ i ≤ j ∧ ∃ e, arr[j - i]? = some e ∧ e.val = v')
  | [], [], i, _, _ => ⟨none, rfl, fun _ => rfl, fun j v h => by simp [findI] at h⟩
  | (k, v, n) :: es, e :: arr, i, ⟨h1, h2, _, h4⟩, hf => by
    simp only [allKeys, Bool.and_eq_true] at hf
    have heq := equal_key T hk w ha h1 fa hf.1
    simp only [Instr.findAsking, Sem.run_bind, heq, Result.andThen_ok, findI]
    cases hb : keyEq a k with
    | true => exact ⟨some (i, e.val), rfl, fun h => by simp at h, fun j u h => by simp at h; obtain ⟨rfl, rfl⟩ := h; exact ⟨e.val, rfl, h2, Nat.le_refl _, e, by simp, rfl⟩⟩
    | false =>
      obtain ⟨r, g1, g2, g3⟩ := findAsking_run T hk w ha fa es arr (i + 1) h4 hf.2
      refine ⟨r, by simpa using g1, fun h => g2 (by simpa using h), fun j u h => ?_⟩
      obtain ⟨v', q1, q2, q3, e', q4, q5⟩ := g3 j u (by simpa using h)
      refine ⟨v', q1, q2, by omega, e', ?_, q5⟩
      rw [show j - i = (j - (i + 1)) + 1 by omega]; simpa using q4
  | [], _ :: _, _, h, _ => h.elim
  | (_, _, _) :: _, [], _, h, _ => h.elim

theorem findNow_run {k : K1} (hkb : k.basic = true) {u : TypeDesc} (hu : kindOk k u = true) {m : Mp} {a : AV} {a' : Value} (ha : VRel m a a') (fa : fitsK [k] [a] = true) :
    ∀ (es : List (AV × AV × Nat)) (arr : List MapEntry) (i : Nat), EntRel m es arr → allKeys false [k] es = true →
      ∃ r, Instr.findNow u a' arr i = some r ∧ (findI a es i = none → r = none) ∧ (∀ j v, findI a es i = some (j, v) → ∃ v', r = some (j, v') ∧ VRel m v v' ∧ i ≤ j ∧ ∃ e, arr[j - i]? = some e ∧ e.val = v')
  | [], [], i, _, _ => ⟨none, rfl, fun _ => rfl, fun j v h => by simp [findI] at h⟩
  | (q, v, n) :: es, e :: arr, i, ⟨h1, h2, _, h4⟩, hf => by
    simp only [allKeys, Bool.and_eq_true, fitKey] at hf
    have hs : Instr.sameNow u a' e.key = some (keyEq a q) := by
      have fq := hf.1
      generalize e.key = ek at h1
      cases k <;> simp [K1.basic] at hkb
      · cases a <;> simp [fitsK] at fa; cases q <;> simp [fitsK] at fq
        cases u <;> simp [kindOk] at hu
        cases ha; cases h1
        simp [Instr.sameNow, keyEq, AV.cellsA, beqCells]
      · cases a <;> simp [fitsK] at fa; cases q <;> simp [fitsK] at fq
        cases u <;> simp [kindOk] at hu
        subst fa; subst fq
        cases ha; cases h1
        simp [Instr.sameNow, keyEq, AV.cellsA, beqCells]
      · cases a <;> simp [fitsK] at fa; cases q <;> simp [fitsK] at fq
        cases u <;> simp [kindOk] at hu
        cases ha; cases h1
        simp only [Instr.sameNow, keyEq, AV.cellsA, beqCells, beq_bytes, Bool.and_true]
    simp only [Instr.findNow, hs, findI]
    cases hb : keyEq a q with
    | true => exact ⟨some (i, e.val), rfl, fun h => by simp at h, fun j u h => by simp at h; obtain ⟨rfl, rfl⟩ := h; exact ⟨e.val, rfl, h2, Nat.le_refl _, e, by simp, rfl⟩⟩
    | false =>
      obtain ⟨r, g1, g2, g3⟩ := findNow_run hkb hu ha fa es arr (i + 1) h4 hf.2
      refine ⟨r, by simpa using g1, fun h => g2 (by simpa using h), fun j u h => ?_⟩
      obtain ⟨v', q1, q2, q3, e', q4, q5⟩ := g3 j u (by simpa using h)
      refine ⟨v', q1, q2, by omega, e', ?_, q5⟩
      rw [show j - i = (j - (i + 1)) + 1 by omega]; simpa using q4
  | [], _ :: _, _, h, _ => h.elim
  | (_, _, _) :: _, [], _, h, _ => h.elim

theorem findKey_run (T : TabOk P ty) {kt : TypeId} {agg : Bool} {ks : List K1} (hk : keyKs ty kt = some (agg, ks)) {m : Mp} (w : World) {a : AV} {a' : Value} (ha : VRel m a a') (fa : fitKey agg ks a = true)
    {es : List (AV × AV × Nat)} {arr : List MapEntry} (he : EntRel m es arr) (hf : allKeys agg ks es = true) :
      ∃ r, (Instr.findKey kt a' arr).run P w = .ok r w ∧ (findI a es 0 = none → r = none) ∧ (∀ j v, findI a es 0 = some (j, v) → ∃ v', r = some (j, v') ∧ VRel m v v' ∧ ∃ e, arr[j]? = some e ∧ e.val = v') := by
  have hk0 := hk
  unfold keyKs at hk
  split at hk
  · rename_i k d hft
    cases hb0 : k.basic with
    | false => simp [hb0] at hk
    | true =>
      simp only [hb0, cond_true, Option.some.injEq, Prod.mk.injEq] at hk
      obtain ⟨rfl, rfl⟩ := hk
      obtain ⟨u, hu, -, hk1, -⟩ := (T.plain hft).desc
      obtain ⟨k1, e1, hk1⟩ := hk1 rfl
      cases e1
      obtain ⟨r, g1, g2, g3⟩ := findNow_run hb0 hk1 ha fa es arr 0 he hf
      refine ⟨r, by simp [Instr.findKey, run_underlying hu, g1], g2, fun j v h => ?_⟩
      obtain ⟨v', q1, q2, _, e, q4, q5⟩ := g3 j v h
      exact ⟨v', q1, q2, e, by simpa using q4, q5⟩
  · rename_i ks' fs hft
    obtain ⟨u, hu, -, -, hd⟩ := (T.plain hft).desc
    cases u <;> simp [descOk] at hd
    rename_i gs
    cases es with
    | nil =>
      cases arr with
      | cons _ _ => exact he.elim
      | nil => exact ⟨none, by simp [Instr.findKey, run_underlying hu, Instr.findNow], fun _ => rfl, fun j v h => by simp [findI] at h⟩
    | cons x es =>
      cases arr with
      | nil => obtain ⟨k, v, n⟩ := x; exact he.elim
      | cons e arr =>
        obtain ⟨r, g1, g2, g3⟩ := findAsking_run T hk0 w ha fa (x :: es) (e :: arr) 0 he hf
        refine ⟨r, ?_, g2, fun j v h => ?_⟩
        · have : Instr.findNow (.struct gs) a' (e :: arr) 0 = none := by
            simp only [Instr.findNow]
            have : Instr.sameNow (.struct gs) a' e.key = none := by unfold Instr.sameNow; cases a' <;> rfl
            rw [this]
          simp [Instr.findKey, run_underlying hu, this, g1]
        · obtain ⟨v', q1, q2, _, e', q4, q5⟩ := g3 j v h
          exact ⟨v', q1, q2, e', by simpa using q4, q5⟩
  · cases hk

/-! ### May it be a key? -/
theorem checkKey_basic {k : K1} (hkb : k.basic = true) {kt : TypeId} {u : TypeDesc} (hu : P.underlying kt = some u) (hk : kindOk k u = true) (em : Bool) (n : Nat) (v : Value) (w : World) : (Instr.checkKey em (n + 1) kt v).run P w = .ok () w := by
  simp only [Instr.checkKey, Sem.run_bind, run_underlying hu, Result.andThen_ok]
  cases k <;> simp [K1.basic] at hkb <;> cases u <;> simp [kindOk] at hk <;> rfl

theorem checkFields (em : Bool) (n : Nat) (w : World) (m : Mp) : ∀ (fs : List Field) (ks : List K1) (i : Nat) (xs : List AV) (xa : Array Value), flatFields P fs ks i = true → VsRel m xs (xa.toList.drop i) → fitsK ks xs = true →
    (forIn fs PUnit.unit fun f _ => do
      if f.name ≠ "_" then
        Instr.checkKey em (n + 1) f.type (← part f.type xa f.offset)
        pure (ForInStep.yield PUnit.unit)
      else pure (ForInStep.yield PUnit.unit) : Sem PUnit).run P w = .ok () w
  | [], _, _, _, _, _, _, _ => by simp
  | f :: fs, [], _, _, _, hf, _, _ => by simp [flatFields] at hf
  | f :: fs, k :: ks, i, xs, xa, hf, hr, hx => by
    simp only [flatFields, Bool.and_eq_true, beq_iff_eq, Bool.not_eq_true'] at hf
    obtain ⟨⟨⟨⟨ho, hn⟩, hkb⟩, hb⟩, hf⟩ := hf
    cases hu : P.underlying f.type with
    | none => simp [hu] at hb
    | some u =>
      simp only [hu] at hb
      cases xs with
      | nil => cases k <;> simp [fitsK] at hx
      | cons x xs =>
        cases hxd : xa.toList.drop i with
        | nil => rw [hxd] at hr; cases hr
        | cons xv xr =>
          rw [hxd] at hr
          cases hr with | cons _ _ _ _ r1 r2 =>
          have gx : xa[i]? = some xv := by have := congrArg (·[0]?) hxd; simpa using this
          have dx : xa.toList.drop (i + 1) = xr := by rw [← List.drop_drop, hxd]; rfl
          have hagg : isAggD u = false := by cases k <;> cases u <;> simp [kindOk, K1.basic] at hb hkb <;> rfl
          have pa : (part f.type xa f.offset).run P w = .ok xv w := by
            have : (isAgg f.type).run P w = .ok false w := by
              simp only [isAgg, Sem.run_bind, run_underlying hu, Result.andThen_ok]
              cases u <;> simp [isAggD] at hagg <;> rfl
            simp [part, this, ho, gx]
          have hx' : fitsK ks xs = true := by
            cases k <;> simp [K1.basic] at hkb <;> cases x <;> simp [fitsK] at hx
            · exact hx
            · exact hx.2
            · exact hx
          have ih := checkFields em n w m fs ks (i + 1) xs xa hf (by rw [dx]; exact r2) hx'
          have hn' : f.name ≠ "_" := by simpa using hn
          have hck := checkKey_basic hkb hu hb em n xv w
          rw [List.forIn_cons]
          simp only [if_pos hn', Sem.run_bind, pa, Result.andThen_ok, hck, Sem.run_pure]
          exact ih

theorem checkKey_run (T : TabOk P ty) {kt : TypeId} {agg : Bool} {ks : List K1} (hk : keyKs ty kt = some (agg, ks)) {m : Mp} (w : World) {a : AV} {a' : Value} (ha : VRel m a a') (fa : fitKey agg ks a = true) (em : Bool) :
    (Instr.checkKey em 10000 kt a').run P w = .ok () w := by
  unfold keyKs at hk
  split at hk
  · rename_i k d hft
    cases hb0 : k.basic with
    | false => simp [hb0] at hk
    | true =>
      simp only [hb0, cond_true, Option.some.injEq, Prod.mk.injEq] at hk
      obtain ⟨u, hu, -, hk1, -⟩ := (T.plain hft).desc
      obtain ⟨k1, e1, hk1⟩ := hk1 rfl
      cases e1
      exact checkKey_basic hb0 hu hk1 em 9999 a' w
  · rename_i ks' fs hft
    simp only [Option.some.injEq, Prod.mk.injEq] at hk
    obtain ⟨rfl, rfl⟩ := hk
    obtain ⟨u, hu, -, -, hd⟩ := (T.plain hft).desc
    cases u <;> simp [descOk] at hd
    rename_i gs
    have hflat := hd.2
    simp only [flatOk, Bool.and_eq_true, Bool.not_eq_true'] at hflat
    obtain ⟨⟨f1, f2⟩, f3⟩ := hflat
    cases a <;> simp [fitKey] at fa
    cases ha with | agg _ xa rx =>
    have := checkFields (P := P) em 9998 w m gs.toList ks' 0 _ xa f3 (by simpa using rx) fa
    rw [show (10000 : Nat) = 9998 + 1 + 1 from rfl]
    rw [Instr.checkKey]
    simp only [Sem.run_bind, run_underlying hu, Result.andThen_ok]
    rw [← Array.forIn_toList, this]
    rfl
  · cases hk

/-! ### Lookup -/
theorem TabOk.mapTy (T : TabOk P ty) {t : TypeId} {agg : Bool} {ks : List K1} {kt et : TypeId} (hf : ty.find t = some (.plain agg ks (.map kt et))) : P.underlying t = some (.map kt et) := by
  obtain ⟨u, hu, -, -, hd⟩ := (T.plain hf).desc
  cases u <;> simp [descOk] at hd
  obtain ⟨rfl, rfl⟩ := hd
  exact hu

theorem zero_mkv {t : TypeId} {agg : Bool} {ks : List K1} {d : TD} (hp : PlainOk P t agg ks d) : ∃ z, (∀ w, (zeroValue t).run P w = .ok z w) ∧ ∀ m, VRel m (mkv agg (ks.map K1.zero)) z := by
  obtain ⟨i, hi, hs, z, hz, hzs, ha, hna⟩ := hp.size
  refine ⟨z, fun w => by simp [zeroValue, typeInfo, hi, hz], fun m => ?_⟩
  have hr := zerosAre_rel m hzs
  cases agg with
  | true =>
    obtain ⟨a, rfl⟩ := ha rfl
    exact .agg _ a hr
  | false =>
    obtain ⟨u, hu, -, hk, -⟩ := hp.desc
    obtain ⟨k, rfl, -⟩ := hk rfl
    have hna' := hna rfl
    cases z with
    | agg a => exact (hna' a rfl).elim
    | _ => simp only [Value.cells, List.map_cons, List.map_nil, mkv] at hr ⊢; cases hr with | cons _ _ _ _ h1 h2 => exact h1

theorem lookRes_rel {m : Mp} {ok : Bool} {v : AV} {v' : Value} (b : Bool) (h : VRel m v v') : VRel m (lookRes ok v b) (if ok then .tuple #[v', .bool b] else v') := by
  cases ok with
  | true => exact .tuple _ _ (.cons _ _ _ _ h (.cons _ _ _ _ (.bool b) .nil))
  | false => exact h

theorem EntRel.length {m : Mp} : ∀ {es : List (AV × AV × Nat)} {arr : List MapEntry}, EntRel m es arr → arr.length = es.length
  | [], [], _ => rfl
  | (_, _, _) :: _, _ :: _, ⟨_, _, _, h⟩ => by simp [EntRel.length h]
  | [], _ :: _, h => h.elim
  | (_, _, _) :: _, [], h => h.elim

theorem lookup_ok (T : TabOk P ty) {xt : TypeId} {x k : AV} {ok : Bool} {h : AH} {K : AV → Re → Prop} (hl : lookupW ty xt x k ok h K) :
    ∃ v re, K v re ∧ re.at h ∧ ∀ h' : AH, re.at h' → ∀ (m : Mp) (w : World) (x' k' : Value), Sim m h' w → VRel m x x' → VRel m k k' → ∃ v', (Instr.lookup xt x' k' ok).run P w = .ok v' w ∧ VRel m v v' := by
  unfold lookupW at hl
  split at hl
  · rename_i kt et hf
    have hu := T.mapTy hf
    split at hl
    · rename_i kagg kks eagg eks ed hk he
      cases hfit : fitKey kagg kks k with
      | false => simp [hfit] at hl
      | true =>
        simp only [hfit, cond_true] at hl
        obtain ⟨z, hz, hzr⟩ := zero_mkv (T.plain he)
        split at hl
        · refine ⟨_, _, hl, trivial, fun h' _ m w x' k' s hx hkr => ?_⟩
          cases hx
          refine ⟨_, ?_, lookRes_rel false (hzr m)⟩
          have h1 := checkKey_run T hk w hkr hfit true
          obtain ⟨r, h2, h3, -⟩ := findKey_run T hk w hkr hfit (es := []) (arr := []) trivial rfl
          have := h3 rfl; subst this
          simp [Instr.lookup, run_underlying hu, h1, h2, hz w]
        · rename_i b
          obtain ⟨es, clk, hb, hall, hl⟩ := hl
          refine ⟨_, _, hl, ⟨clk, hb⟩, fun h' ⟨clk', hb'⟩ m w x' k' s hx hkr => ?_⟩
          cases hx with | map _ sl hm =>
          obtain ⟨-, ob, hw, ho⟩ := s.objs b _ sl hb' (by simp) hm
          cases ho with | map _ arr _ her =>
          have h1 := checkKey_run T hk w hkr hfit arr.isEmpty
          obtain ⟨r, h2, h3, h4⟩ := findKey_run T hk w hkr hfit her hall
          have hobj : (getObj sl.cb).run P w = .ok (.map arr clk') w := by simp [getObj, Sem.run, hw]
          cases hfi : findI k es 0 with
          | none =>
            have := h3 hfi; subst this
            exact ⟨_, by simp [Instr.lookup, run_underlying hu, hobj, h1, h2, hz w], lookRes_rel false (hzr m)⟩
          | some jv =>
            obtain ⟨j, v⟩ := jv
            obtain ⟨v', rfl, q2, -⟩ := h4 j v hfi
            exact ⟨_, by simp [Instr.lookup, run_underlying hu, hobj, h1, h2], lookRes_rel true q2⟩
        · exact hl.elim
    · exact hl.elim
  · exact hl.elim

/-! ### Objects that are no cells are turned -/
theorem Sim.setObj {m : Mp} {h : AH} {w : World} (s : Sim m h w) {b : Nat} {o o' : AObj} {t : Slot} {ob ob' : Obj} (hb : h.get b = some o) (hn : ∀ ro fz el c, o ≠ .cells ro fz el c) (ht : m b = some t) (hw : w.heap[t.cb]? = some ob)
    (hn' : ∀ ro fz el c, o' ≠ .cells ro fz el c) (hr : ObjRel m o' ob') :
    Sim m (h.set b (some o')) { w with heap := w.heap.setIfInBounds t.cb ob' } ∧ Steps m h w m (h.set b (some o')) { w with heap := w.heap.setIfInBounds t.cb ob' } := by
  have hf : o.fixed = false := by cases o <;> first | rfl | exact (hn _ _ _ _ rfl).elim
  have hlt : t.cb < w.heap.size := (Array.getElem?_eq_some_iff.1 hw).1
  have hco := (s.objs b o t hb hn ht).1
  have hother : ∀ k, k ≠ t.cb → (w.heap.setIfInBounds t.cb ob')[k]? = w.heap[k]? := fun k hk => by rw [Array.getElem?_setIfInBounds_ne (fun e => hk e.symm)]
  have hself : (w.heap.setIfInBounds t.cb ob')[t.cb]? = some ob' := by simp [hlt]
  have hsz : (w.heap.setIfInBounds t.cb ob').size = w.heap.size := by simp
  have key : ∀ x q, x ≠ b → (h.set b (some o')).get x = some q → h.get x = some q := by intro x q hne hx; simpa [AH.set, hne] using hx
  have own : ∀ q, (h.set b (some o')).get b = some q → q = o' := by intro q hx; simpa [AH.set] using hx.symm
  have nc : ∀ x q u, x ≠ b → h.get x = some q → m x = some u → u.cb ≠ t.cb := fun x q u hne hx hu e => s.inj b x o q t u hb hx (fun e => hne e.symm) hn ht hu e.symm
  refine ⟨⟨fun x hx => ⟨?_, (s.top x hx).2⟩, fun x q hx => ?_, fun x ro fz el c u hx hu => ?_, fun x y fz el c ro2 fz2 el2 c2 u v hx hy hne hu hv => ?_, fun x q u hx hnq hu => ?_, fun x y q q2 u v hx hy hne hnq hu hv => ?_⟩, ?_⟩
  · have hne : x ≠ b := fun e => by have := (s.top x hx).1; rw [e, hb] at this; cases this
    simpa [AH.set, hne] using (s.top x hx).1
  · by_cases hne : x = b
    · subst hne; exact ⟨t, ht, by simp only [hsz]; exact hlt⟩
    · obtain ⟨u, hu, hl⟩ := s.lies x q (key x q hne hx); exact ⟨u, hu, by simp only [hsz]; exact hl⟩
  · have hne : x ≠ b := fun e => by subst e; exact hn' _ _ _ _ (own _ hx).symm
    have hx' := key x _ hne hx
    have := s.cells _ _ _ _ _ _ hx' hu
    unfold CellsOk at *
    simp only
    rw [hother _ (nc x _ u hne hx' hu)]; exact this
  · have hxb : x ≠ b := fun e => by subst e; exact hn' _ _ _ _ (own _ hx).symm
    have hyb : y ≠ b := fun e => by subst e; exact hn' _ _ _ _ (own _ hy).symm
    exact s.disj x y fz el c ro2 fz2 el2 c2 u v (key x _ hxb hx) (key y _ hyb hy) hne hu hv
  · by_cases hne : x = b
    · subst hne; cases own _ hx; rw [ht] at hu; cases hu
      exact ⟨hco, ob', hself, hr⟩
    · have hx' := key x _ hne hx
      obtain ⟨a1, ob1, a2, a3⟩ := s.objs x q u hx' hnq hu
      exact ⟨a1, ob1, by simp only; rw [hother _ (nc x _ u hne hx' hu)]; exact a2, a3⟩
  · by_cases hxb : x = b
    · subst hxb; rw [ht] at hu; cases hu
      exact fun e => nc y q2 v (fun e => hne e.symm) (key y _ (fun e => hne e.symm) hy) hv e.symm
    · by_cases hyb : y = b
      · subst hyb; rw [ht] at hv; cases hv; exact nc x q u hxb (key x _ hxb hx) hu
      · exact s.inj x y q q2 u v (key x _ hxb hx) (key y _ hyb hy) hne hnq hu hv
  · exact Steps.turn hb hf ht (by simp only [hsz]; exact Nat.le_refl _) ⟨rfl, rfl, rfl⟩ (fun k _ hk => hother k hk)

theorem sameBits_key {agg : Bool} {ks : List K1} {m : Mp} {a b : AV} {a' b' : Value} (ha : VRel m a a') (hb : VRel m b b') (fa : fitKey agg ks a = true) (fb : fitKey agg ks b = true) (hagg : agg = false → ∃ k, ks = [k]) (he : keyEq a b = true) : Instr.sameBits 10000 b' a' = true := by
  have cells : ∀ (ks : List K1) (xs ys : List AV) (xa ya : List Value), VsRel m xs xa → VsRel m ys ya → fitsK ks xs = true → fitsK ks ys = true → beqCells xs ys = true → (ya.zip xa).all (fun (x, y) => Instr.sameBits 9999 x y) = true ∧ ya.length = xa.length := by
    intro ks
    induction ks with
    | nil =>
      intro xs ys xa ya hx hy f1 f2 _
      cases xs <;> simp [fitsK] at f1
      cases ys <;> simp [fitsK] at f2
      cases hx; cases hy; exact ⟨rfl, rfl⟩
    | cons k ks ih =>
      intro xs ys xa ya hx hy f1 f2 hq
      cases hx with
      | nil => cases k <;> simp [fitsK] at f1
      | cons x xv xs xr h1 h2 =>
        cases hy with
        | nil => cases k <;> simp [fitsK] at f2
        | cons y yv ys yr g1 g2 =>
          cases k <;> cases x <;> simp [fitsK] at f1 <;> cases y <;> simp [fitsK] at f2 <;> simp only [beqCells, Bool.and_eq_true] at hq <;> cases h1 <;> cases g1
          · obtain ⟨i1, i2⟩ := ih xs ys xr yr h2 g2 f1 f2 hq.2
            have := hq.1
            simp at this; subst this
            exact ⟨by simp [Instr.sameBits]; simpa using i1, by simp [i2]⟩
          · obtain ⟨i1, i2⟩ := ih xs ys xr yr h2 g2 f1.2 f2.2 hq.2
            have := hq.1
            simp at this; subst this
            obtain ⟨rfl, -⟩ := f1; obtain ⟨rfl, -⟩ := f2
            exact ⟨by simp [Instr.sameBits]; simpa using i1, by simp [i2]⟩
          · obtain ⟨i1, i2⟩ := ih xs ys xr yr h2 g2 f1 f2 hq.2
            have := hq.1
            simp at this; subst this
            exact ⟨by simp [Instr.sameBits, beq_bytes]; simpa using i1, by simp [i2]⟩
  cases agg with
  | true =>
    cases a <;> simp [fitKey] at fa
    cases b <;> simp [fitKey] at fb
    cases ha with | agg _ xa rx => cases hb with | agg _ ya ry =>
    obtain ⟨i1, i2⟩ := cells ks _ _ _ _ rx ry fa fb he
    simp only [Instr.sameBits, Bool.and_eq_true, beq_iff_eq]
    exact ⟨by simpa using i2, i1⟩
  | false =>
    obtain ⟨k, rfl⟩ := hagg rfl
    simp only [fitKey] at fa fb
    cases k <;> cases a <;> simp [fitsK] at fa <;> cases b <;> simp [fitsK] at fb <;> cases ha <;> cases hb <;> simp only [keyEq, AV.cellsA, beqCells, Bool.and_true] at he
    · simp at he; subst he; simp [Instr.sameBits]
    · simp at he; subst he; subst fa; subst fb; simp [Instr.sameBits]
    · simp at he; subst he; simp [Instr.sameBits, beq_bytes]

/-! ### What a map becomes -/
theorem findI_shift (k : AV) : ∀ (es : List (AV × AV × Nat)) (i : Nat), findI k es (i + 1) = (findI k es i).map fun x => (x.1 + 1, x.2)
  | [], _ => rfl
  | x :: r, i => by
    simp only [findI]
    cases keyEq k x.1 with
    | true => rfl
    | false => simp only [cond_false]; exact findI_shift k r (i + 1)

theorem upd_rel {m : Mp} {k v : AV} {k' v' : Value} (hk : VRel m k k') (hv : VRel m v v') : ∀ (es : List (AV × AV × Nat)) (arr : List MapEntry) (j : Nat) (u : AV), EntRel m es arr → findI k es 0 = some (j, u) →
    EntRel m (updI k v es) (arr.modify j fun e => { e with key := k', val := v' })
  | [], _, _, _, _, h => by simp [findI] at h
  | (a, b, n) :: es, [], _, _, h, _ => h.elim
  | (a, b, n) :: es, e :: arr, j, u, ⟨h1, h2, h3, h4⟩, hf => by
    simp only [findI] at hf
    simp only [updI]
    cases hq : keyEq k a with
    | true =>
      simp only [hq, cond_true, Option.some.injEq, Prod.mk.injEq] at hf ⊢
      obtain ⟨rfl, -⟩ := hf
      exact ⟨hk, hv, h3, h4⟩
    | false =>
      simp only [hq, cond_false] at hf ⊢
      rw [findI_shift] at hf
      cases hg : findI k es 0 with
      | none => simp [hg] at hf
      | some ju =>
        obtain ⟨j', u'⟩ := ju
        simp [hg] at hf
        obtain ⟨rfl, -⟩ := hf
        exact ⟨h1, h2, h3, upd_rel hk hv es arr j' u' h4 hg⟩

theorem key_rel {m : Mp} {k : AV} {k' : Value} (hk : VRel m k k') : ∀ (es : List (AV × AV × Nat)) (arr : List MapEntry) (j : Nat) (u : AV), EntRel m es arr → findI k es 0 = some (j, u) →
    EntRel m (updI k u es) (arr.modify j fun e => { e with key := k' }) ∧ ∃ e, arr[j]? = some e ∧ e.born = bornI k es
  | [], _, _, _, _, h => by simp [findI] at h
  | (a, b, n) :: es, [], _, _, h, _ => h.elim
  | (a, b, n) :: es, e :: arr, j, u, ⟨h1, h2, h3, h4⟩, hf => by
    simp only [findI] at hf
    simp only [updI, bornI]
    cases hq : keyEq k a with
    | true =>
      simp only [hq, cond_true, Option.some.injEq, Prod.mk.injEq] at hf ⊢
      obtain ⟨rfl, rfl⟩ := hf
      exact ⟨⟨hk, h2, h3, h4⟩, e, rfl, h3⟩
    | false =>
      simp only [hq, cond_false] at hf ⊢
      rw [findI_shift] at hf
      cases hg : findI k es 0 with
      | none => simp [hg] at hf
      | some ju =>
        obtain ⟨j', u'⟩ := ju
        simp [hg] at hf
        obtain ⟨rfl, rfl⟩ := hf
        obtain ⟨i1, e', i2, i3⟩ := key_rel hk es arr j' u' h4 hg
        exact ⟨⟨h1, h2, h3, i1⟩, e', by simpa using i2, i3⟩

theorem del_rel {m : Mp} {k : AV} : ∀ (es : List (AV × AV × Nat)) (arr : List MapEntry) (j : Nat) (u : AV), EntRel m es arr → findI k es 0 = some (j, u) → EntRel m (delI k es) (arr.eraseIdx j)
  | [], _, _, _, _, h => by simp [findI] at h
  | (a, b, n) :: es, [], _, _, h, _ => h.elim
  | (a, b, n) :: es, e :: arr, j, u, ⟨h1, h2, h3, h4⟩, hf => by
    simp only [findI] at hf
    simp only [delI]
    cases hq : keyEq k a with
    | true =>
      simp only [hq, cond_true, Option.some.injEq, Prod.mk.injEq] at hf ⊢
      obtain ⟨rfl, -⟩ := hf
      exact h4
    | false =>
      simp only [hq, cond_false] at hf ⊢
      rw [findI_shift] at hf
      cases hg : findI k es 0 with
      | none => simp [hg] at hf
      | some ju =>
        obtain ⟨j', u'⟩ := ju
        simp [hg] at hf
        obtain ⟨rfl, -⟩ := hf
        exact ⟨h1, h2, h3, del_rel es arr j' u' h4 hg⟩
theorem del_none {k : AV} : ∀ (es : List (AV × AV × Nat)), findI k es 0 = none → delI k es = es
  | [], _ => rfl
  | x :: r, h => by
    simp only [findI] at h
    simp only [delI]
    cases hq : keyEq k x.1 with
    | true => simp [hq] at h
    | false =>
      simp only [hq, cond_false] at h ⊢
      rw [findI_shift] at h
      rw [del_none r (by cases hg : findI k r 0 with | none => rfl | some _ => simp [hg] at h)]
theorem EntRel.push {m : Mp} {k v : AV} {e : MapEntry} (h1 : VRel m k e.key) (h2 : VRel m v e.val) : ∀ {es : List (AV × AV × Nat)} {arr : List MapEntry}, EntRel m es arr → EntRel m (es ++ [(k, v, e.born)]) (arr ++ [e])
  | [], [], _ => ⟨h1, h2, rfl, trivial⟩
  | (_, _, _) :: _, _ :: _, ⟨a, b, c, d⟩ => ⟨a, b, c, EntRel.push h1 h2 d⟩
  | [], _ :: _, h => h.elim
  | (_, _, _) :: _, [], h => h.elim
theorem store_rel {m : Mp} {v : AV} {v' : Value} (hv : VRel m v v') (n : Nat) : ∀ (es q : List (AV × AV × Nat)) (arr : List MapEntry), EntRel m es arr → storeI n v es = some q →
    ∃ j, arr.findIdx? (fun e => (e.born : Int) == (n : Int)) = some j ∧ EntRel m q (arr.modify j fun e => { e with val := v' })
  | [], _, _, _, h => by simp [storeI] at h
  | (a, b, n') :: es, _, [], h, _ => h.elim
  | (a, b, n') :: es, q, e :: arr, ⟨h1, h2, h3, h4⟩, hs => by
    simp only [storeI] at hs
    subst h3
    cases hb : Nat.beq e.born n with
    | true =>
      have := Nat.eq_of_beq_eq_true hb; subst this
      simp only [hb, cond_true, Option.some.injEq] at hs
      subst hs
      exact ⟨0, by simp [List.findIdx?_cons], h1, hv, rfl, h4⟩
    | false =>
      simp only [hb, cond_false] at hs
      cases hq : storeI n v es with
      | none => simp [hq] at hs
      | some q' =>
        simp only [hq, Option.some.injEq] at hs
        subst hs
        obtain ⟨j, i1, i2⟩ := store_rel hv n es q' arr h4 hq
        have hne : ¬ ((e.born : Int) == (n : Int)) = true := by
          intro h
          have : e.born = n := by have := beq_iff_eq.1 h; omega
          rw [this] at hb; simp at hb
        exact ⟨j + 1, by rw [List.findIdx?_cons, if_neg hne, i1]; rfl, h1, h2, rfl, i2⟩

end Go.La
/- Layer A, part 7: what is asked of an operation that only looks is enough. -/
namespace Go.La
open Go Go.RowKit

variable {P : Program} {ty : TT}

/-- What a light operation gives: its value, and what keeps it. -/
def LGives (P : Program) (o : Oper) (e : Operand → AV) (h : AH) (K : AV → Re → Prop) : Prop :=
  ∃ v re, K v re ∧ re.at h ∧ ∀ h', re.at h' → LOk P o e h' v

theorem LGives.pure {o : Oper} {e : Operand → AV} {h : AH} {K : AV → Re → Prop} {v : AV} (hk : K v tt)
    (hr : ∀ (m : Mp) (w : World) (ρ : Operand → Value), (∀ x ∈ o.op.operands, VRel m (e x) (ρ x)) → ∃ v', (execOp ρ o).run P w = .ok (.value v') w ∧ VRel m v v') : LGives P o e h K :=
  ⟨v, tt, hk, trivial, fun _ _ m w ρ _ hx => hr m w ρ hx⟩

theorem vrun {s : Sem Value} {v : Value} {w : World} (h : s.run P w = .ok v w) : (do pure (Next.value (← s)) : Sem Next).run P w = .ok (.value v) w := by
  simp [h]

theorem bytes_vals {m : Mp} : ∀ {sb : Str} {l' : List Value}, VsRel m (sb.map byteA) l' → l' = (sb.map fun b => (b.toNat : Int)).map (Value.int .u8)
  | [], _, h => by cases h; rfl
  | b :: sb, _, h => by
    cases h with | cons _ y _ ys h1 h2 =>
    cases h1
    simp only [List.map_cons]
    rw [bytes_vals h2]

theorem light_ok (T : TabOk P ty) (o : Oper) (e : Operand → AV) (h : AH) (K : AV → Re → Prop) (hl : lightW P ty o.op o.type e h K) : LGives P o e h K := by
  obtain ⟨dst, op, type, pos, after, guard⟩ := o
  simp only at hl
  cases op with
  | move x => exact .pure hl fun m w ρ hx => ⟨ρ x, rfl, hx x (by simp [Op.operands])⟩
  | assign x => exact .pure hl fun m w ρ hx => ⟨ρ x, rfl, nilOr_rel (hx x (by simp [Op.operands]))⟩
  | pick c a b =>
    simp only [lightW] at hl
    split at hl
    · rename_i bc ba bb h1 h2 h3
      refine .pure hl fun m w ρ hx => ?_
      have r1 := hx c (by simp [Op.operands]); have r2 := hx a (by simp [Op.operands]); have r3 := hx b (by simp [Op.operands])
      rw [h1] at r1; rw [h2] at r2; rw [h3] at r3
      refine ⟨if bc then ρ a else ρ b, ?_, ?_⟩
      · generalize hρ : ρ c = cv at *; cases r1
        simp [execOp, asBool, hρ]
      · generalize ρ a = av at *; generalize ρ b = bv at *
        cases r2; cases r3; cases bc <;> exact .bool _
    · rename_i h1 _
      refine .pure hl fun m w ρ hx => ?_
      have r1 := hx c (by simp [Op.operands])
      rw [h1] at r1
      refine ⟨ρ a, ?_, hx a (by simp [Op.operands])⟩
      generalize hρ : ρ c = cv at *; cases r1
      simp [execOp, asBool, hρ]
    · rename_i h1 _
      refine .pure hl fun m w ρ hx => ?_
      have r1 := hx c (by simp [Op.operands])
      rw [h1] at r1
      refine ⟨ρ b, ?_, hx b (by simp [Op.operands])⟩
      generalize hρ : ρ c = cv at *; cases r1
      simp [execOp, asBool, hρ]
    · exact hl.elim
  | load t p =>
    simp only [lightW] at hl
    split at hl
    · rename_i agg ks d q hf hp
      rw [needSome_iff] at hl
      obtain ⟨a, rfl, x, hr, hk⟩ := hl
      refine ⟨_, _, hk, hr, fun h' hr' m w ρ s hx => ?_⟩
      have r1 := hx p (by simp [Op.operands])
      rw [hp] at r1
      generalize hρ : ρ p = pv at *; cases r1 with | ptr _ sl hm =>
      obtain ⟨v', g1, g2⟩ := load_run s (T.plain hf) hr' hm
      exact ⟨v', by simp only [execOp, hρ]; exact vrun g1, g2⟩
    · rename_i d hf hp
      refine .pure hl fun m w ρ hx => ?_
      have r1 := hx p (by simp [Op.operands])
      rw [hp] at r1
      generalize hρ : ρ p = pv at *; cases r1 with | anyptr a =>
      refine ⟨.agg #[], ?_, .agg _ _ .nil⟩
      have h1 := (T.plain hf).aggRun w; have h2 := (T.plain hf).sizeRun w
      simp [execOp, hρ, Instr.loadAt, Instr.sureAddr, loadVar, h1, h2, loadCells, loadCellsFrom]
    · exact hl.elim
  | nilCheck x =>
    simp only [lightW] at hl
    split at hl
    · rename_i q hq
      rw [needSome_iff] at hl
      obtain ⟨a, rfl, hk⟩ := hl
      refine .pure hk fun m w ρ hx => ?_
      have r1 := hx x (by simp [Op.operands]); rw [hq] at r1
      refine ⟨ρ x, ?_, r1⟩
      generalize hρ : ρ x = xv at *; cases r1 with | ptr _ sl hm => simp [execOp, hρ]
    · rename_i hq
      refine .pure hl fun m w ρ hx => ?_
      have r1 := hx x (by simp [Op.operands]); rw [hq] at r1
      refine ⟨ρ x, ?_, r1⟩
      generalize hρ : ρ x = xv at *; cases r1; simp [execOp, hρ]
    · rename_i fn l1 l2 hq
      split at hl
      · refine .pure hl fun m w ρ hx => ?_
        have r1 := hx x (by simp [Op.operands]); rw [hq] at r1
        refine ⟨ρ x, ?_, r1⟩
        generalize hρ : ρ x = xv at *; cases r1 with | func _ _ _ _ _ _ hf _ _ => cases hf; simp [execOp, hρ]
      · exact hl.elim
    · exact hl.elim
  | binOp op t x y yt =>
    simp only [lightW] at hl
    obtain ⟨v, hk, hb⟩ := binW_ok T hl
    refine .pure hk fun m w ρ hx => ?_
    obtain ⟨v', g1, g2⟩ := hb m w (ρ x) (ρ y) x y (hx x (by simp [Op.operands])) (hx y (by simp [Op.operands]))
    exact ⟨v', by simp only [execOp]; exact vrun g1, g2⟩
  | unOp op t x =>
    simp only [lightW] at hl
    split at hl
    · rename_i b hq
      refine .pure hl fun m w ρ hx => ?_
      have r1 := hx x (by simp [Op.operands]); rw [hq] at r1
      generalize hρ : ρ x = xv at *; cases r1
      exact ⟨.bool !b, by simp [execOp, hρ, Op.unary], .bool _⟩
    · rename_i k n hq
      refine .pure hl fun m w ρ hx => ?_
      have r1 := hx x (by simp [Op.operands]); rw [hq] at r1
      generalize hρ : ρ x = xv at *; cases r1
      exact ⟨.int k _, by simp [execOp, hρ, Op.unary, Op.intArith], .int _ _⟩
    · rename_i k n hq
      refine .pure hl fun m w ρ hx => ?_
      have r1 := hx x (by simp [Op.operands]); rw [hq] at r1
      generalize hρ : ρ x = xv at *; cases r1
      exact ⟨.int k _, by simp [execOp, hρ, Op.unary, Op.intBits], .int _ _⟩
    · exact hl.elim
  | lookup xt x k ok =>
    obtain ⟨v, re, h1, h2, h3⟩ := lookup_ok T hl
    refine ⟨v, re, h1, h2, fun h' hr m w ρ s hx => ?_⟩
    obtain ⟨v', g1, g2⟩ := h3 h' hr m w (ρ x) (ρ k) s (hx x (by simp [Op.operands])) (hx k (by simp [Op.operands]))
    exact ⟨v', by simp only [execOp]; exact vrun g1, g2⟩
  | convert sT dT x =>
    simp only [lightW] at hl
    split at hl
    · rename_i a0 k0 d0 k d kk n hs hd hq
      refine .pure hl fun m w ρ hx => ?_
      have r1 := hx x (by simp [Op.operands]); rw [hq] at r1
      generalize hρ : ρ x = xv at *; cases r1
      obtain ⟨u, hu, -⟩ := (T.plain hs).desc
      obtain ⟨u2, hu2, -, hk, -⟩ := (T.plain hd).desc
      obtain ⟨k1, e1, hk⟩ := hk rfl
      cases e1
      cases u2 <;> simp [kindOk] at hk
      subst hk
      exact ⟨.int k _, by simp [execOp, hρ, convert, run_underlying hu, run_underlying hu2, Conv.intToInt], .int _ _⟩
    · rename_i d0 d s hs hd hq
      refine .pure hl fun m w ρ hx => ?_
      have r1 := hx x (by simp [Op.operands]); rw [hq] at r1
      generalize hρ : ρ x = xv at *; cases r1
      obtain ⟨u, hu, -, hk0, -⟩ := (T.plain hs).desc
      obtain ⟨k0, e0, hk0⟩ := hk0 rfl
      cases e0
      cases u <;> simp [kindOk] at hk0
      obtain ⟨u2, hu2, -, hk, -⟩ := (T.plain hd).desc
      obtain ⟨k1, e1, hk⟩ := hk rfl
      cases e1
      cases u2 <;> simp [kindOk] at hk
      exact ⟨_, by simp [execOp, hρ, convert, run_underlying hu, run_underlying hu2], .str _⟩
    · rename_i sz el d p n sz2 hs hd hq
      split at hl
      · rename_i d2 hel
        obtain ⟨sb, hsl, hk⟩ := hl
        refine ⟨_, _, hk, hsl, fun h' hr m w ρ s hx => ?_⟩
        have r1 := hx x (by simp [Op.operands]); rw [hq] at r1
        obtain ⟨u, hu, -, -, hdd⟩ := (T.plain hs).desc
        cases u <;> simp [descOk] at hdd
        rename_i e0
        obtain ⟨rfl, -⟩ := hdd
        obtain ⟨ue, hue, -, hke, -⟩ := (T.plain hel).desc
        obtain ⟨k0, e1, hke⟩ := hke rfl
        cases e1
        cases ue <;> simp [kindOk] at hke
        subst hke
        obtain ⟨u2, hu2, -, hk2, -⟩ := (T.plain hd).desc
        obtain ⟨k2, e2, hk2⟩ := hk2 rfl
        cases e2
        cases u2 <;> simp [kindOk] at hk2
        generalize hρ : ρ x = xv at *
        have fin : ∀ a l c, xv = .slice a l c → (Conv.bytesToString (.slice a l c)).run P w = .ok (.string ⟨sb.toArray⟩) w → ∃ v', (execOp ρ ⟨dst, .convert sT dT x, type, pos, after, guard⟩).run P w = .ok (.value v') w ∧ VRel m (.str sb) v' := by
          intro a l c hxv hb
          refine ⟨.string ⟨sb.toArray⟩, ?_, .str _⟩
          simp only [execOp, hρ, hxv]
          refine vrun ?_
          rw [run_convert_bytes_string w sT dT _ a l c hu hue hu2]; exact hb
        have hr : SlAt h' p n (sb.map byteA) := hr
        cases r1 with
        | snil _ =>
          obtain ⟨-, hnil⟩ := hr
          have : sb = [] := by simpa using hnil
          subst this
          exact fin none 0 0 rfl (by simp [Conv.bytesToString]; rfl)
        | slice p0 _ _ a cap sl hm c1 c2 c3 =>
          obtain ⟨t, l', ht, hlen, hrel, -, hcell⟩ := s.rd hr
          rw [hm] at ht; cases ht
          have hl' := bytes_vals hrel
          refine fin (some a) n cap rfl ?_
          have hfold : ∀ (l : Str) (acc : ByteArray), (l.map fun b => (b.toNat : Int)).foldl (fun (r : ByteArray) (n : Int) => r.push (UInt8.ofNat n.toNat)) acc = ⟨(acc.data.toList ++ l).toArray⟩ := by
            intro l
            induction l with
            | nil => intro acc; simp
            | cons b l ih => intro acc; simp only [List.map_cons, List.foldl_cons]; rw [ih]; simp [ByteArray.push]
          rw [run_bytesToString w a n cap (sb.map fun b => (b.toNat : Int)) ?_, hfold]
          · rfl
          · by_cases hn : n = 0
            · subst hn
              have : sb = [] := by
                have := hrel.length; rw [hlen] at this; simpa using this
              subst this
              simp [loadCells, loadCellsFrom]
            · obtain rfl := c3.resolve_left (by omega)
              have := run_loadCells_list (P := P) w (sl.addr p0.o) l' hcell
              rw [hlen] at this
              rw [this, hl']
      · exact hl.elim
    · rename_i e0 q hs hd hq
      rw [needSome_iff] at hl
      obtain ⟨p, rfl, hl⟩ := hl
      split at hl
      · rename_i agg k1 ks1 d1 hel
        obtain ⟨c, hrd, hk⟩ := hl
        refine ⟨_, _, hk, ⟨c, hrd⟩, fun h' ⟨c', hr'⟩ m w ρ s hx => ?_⟩
        have r1 := hx x (by simp [Op.operands]); rw [hq] at r1
        generalize hρ : ρ x = xv at *
        cases r1 with | ptr _ sl hm =>
        obtain ⟨u, hu, -, -, hdd⟩ := (T.plain hs).desc
        cases u <;> simp [descOk] at hdd
        obtain ⟨rfl, -⟩ := hdd
        have hu2 := T.uptr hd
        obtain ⟨ie, hie, hisz, -⟩ := (T.plain hel).size
        refine ⟨.pointer (some (sl.addr p.o)), ?_, .ptr p sl hm⟩
        simp only [execOp, hρ]
        refine vrun ?_
        unfold AH.rd at hr'
        split at hr'
        · rename_i ro fz el cc hcc
          split at hr'
          · rename_i hlt
            obtain ⟨arr, lo, hi, hw, hsz, hcl, -⟩ := s.cells _ _ _ _ _ _ hcc hm
            have hsh : w.shape? sl.cb = some (el.t, arr.size) := by simp [World.shape?, hw]
            have hne : ¬ ie.size = 0 := by rw [hisz]; simp
            have hoff : ¬ (arr.size ≤ sl.co + p.o) := by omega
            simp [convert, run_underlying hu, run_underlying hu2, Conv.unsafePointer, Conv.seenAt, viewAt, cellsIn, shape, Sem.run, hsh, hw, Slot.addr, sizeOf, typeInfo, hie, hne, hoff, program]
          · simp at hr'
        · simp at hr'
      · exact hl.elim
    · rename_i e0 q hs hd hq
      rw [needSome_iff] at hl
      obtain ⟨p, rfl, ro, fz, el, c, hb, hwh, hlies, hk⟩ := hl
      refine ⟨_, _, hk, ⟨ro, fz, c, hb, rfl⟩, fun h' ⟨ro', fz', c', hb', hlen⟩ m w ρ s hx => ?_⟩
      have r1 := hx x (by simp [Op.operands]); rw [hq] at r1
      generalize hρ : ρ x = xv at *
      cases r1 with | ptr _ sl hm =>
      obtain ⟨u, hu, -, -, hdd⟩ := (T.plain hd).desc
      cases u <;> simp [descOk] at hdd
      obtain ⟨rfl, hiso⟩ := hdd
      obtain ⟨ie, hie⟩ := Option.isSome_iff_exists.1 hiso
      have hu2 := T.uptr hs
      obtain ⟨arr, lo, hi, hw, hsz, hcl, -, -, hwhole⟩ := s.cells _ _ _ _ _ _ hb' hm
      obtain ⟨hco, hsz2⟩ := hwhole.1 hwh
      refine ⟨.pointer (some (sl.addr p.o)), ?_, .ptr p sl hm⟩
      simp only [execOp, hρ]
      refine vrun ?_
      have hsh : w.shape? sl.cb = some (el.t, arr.size) := by simp [World.shape?, hw]
      rename_i ee
      have hl2 : liesAt P P.depth el.t (arr.size / P.cellsOf el.t) (sl.co + p.o) ee 1 = true := by rw [hsz2, hlen, hco, Nat.zero_add]; exact hlies
      simp [convert, run_underlying hu, run_underlying hu2, Conv.unsafePointer, Conv.seenAt, viewAt, shape, Sem.run, hsh, Slot.addr, sizeOf, typeInfo, hie, program, variablesAt, hl2]
    · exact hl.elim
  | fieldAddr t p i =>
    simp only [lightW] at hl
    split at hl
    · rename_i agg ks fs fl q hf hp
      rw [needSome_iff] at hl
      obtain ⟨a, rfl, hl⟩ := hl
      obtain ⟨u, hu, -, -, hd⟩ := (T.plain hf).desc
      cases u <;> simp [descOk] at hd
      rename_i gs
      split at hl
      · rename_i off size ag hfs
        obtain ⟨f, hg, hfo⟩ := fieldsOk_get hd.1 hfs
        cases hz : Nat.beq size 0 with
        | true =>
          simp only [hz, cond_true] at hl
          obtain ⟨el, he, hok, hk⟩ := hl
          refine ⟨_, _, hk, he, fun h' he' m w ρ s hx => ?_⟩
          have r1 := hx p (by simp [Op.operands]); rw [hp] at r1
          generalize hρ : ρ p = pv at *; cases r1 with | ptr _ sl hm =>
          have hsz : size = 0 := Nat.eq_of_beq_eq_true hz
          obtain ⟨f1, f2, f3⟩ := fieldOk_run hfo w
          unfold okEl at hok
          split at hok
          · rename_i ag2 ks2 d2 hel
            have hpos : 0 < ks2.length := by simpa [Nat.blt_eq] using hok
            obtain ⟨k1, b1⟩ := byteOf_run s he' (T.plain hel) hpos hm a.o
            obtain ⟨k2, b2⟩ := byteOf_run s he' (T.plain hel) hpos hm (a.o + f.offset)
            have hplain : ({ block := (sl.addr a.o).block, off := (sl.addr a.o).off + f.offset } : Addr) = sl.addr (a.o + f.offset) := by simp [Slot.addr, Nat.add_assoc]
            have hg' : gs[i]? = some f := by simpa using hg
            have : ∃ x, (fieldPlace (sl.addr a.o) f).run P w = .ok x w := by
              simp only [fieldPlace, Sem.run_bind, f2, hsz, Result.andThen_ok, if_true, partAt, b1]
              rw [hplain]
              simp only [b2, Result.andThen_ok, Sem.run_pure]
              exact ⟨_, rfl⟩
            obtain ⟨x, hx'⟩ := this
            exact ⟨.pointer (some x), by simp [execOp, hρ, Instr.fieldAt, run_underlying hu, hg', Instr.sureAddr, hx'], .anyptr _⟩
          · simp at hok
        | false =>
          simp only [hz, cond_false] at hl
          refine .pure hl fun m w ρ hx => ?_
          have r1 := hx p (by simp [Op.operands]); rw [hp] at r1
          generalize hρ : ρ p = pv at *; cases r1 with | ptr _ sl hm =>
          obtain ⟨f1, f2, f3⟩ := fieldOk_run hfo w
          have hsz : ¬ size = 0 := fun e => by subst e; simp at hz
          have hg' : gs[i]? = some f := by simpa using hg
          refine ⟨.pointer (some (sl.addr (a.o + off))), ?_, .ptr (a.add off) sl hm⟩
          simp [execOp, hρ, Instr.fieldAt, run_underlying hu, hg', Instr.sureAddr, fieldPlace, f2, hsz, f1, Slot.addr_add]
      · exact hl.elim
    · exact hl.elim
  | field t x i =>
    simp only [lightW] at hl
    split at hl
    · rename_i agg ks fs fl l hf hp
      obtain ⟨u, hu, -, -, hd⟩ := (T.plain hf).desc
      cases u <;> simp [descOk] at hd
      rename_i gs
      split at hl
      · rename_i off size ag hfs
        obtain ⟨f, hg, hfo⟩ := fieldsOk_get hd.1 hfs
        obtain ⟨v, hk, hv⟩ := partA_run (P := P) (t := f.type) hl (fun w => (fieldOk_run hfo w).2.1) (fun w => (fieldOk_run hfo w).2.2)
        refine .pure hk fun m w ρ hx => ?_
        have r1 := hx x (by simp [Op.operands]); rw [hp] at r1
        generalize hρ : ρ x = pv at *; cases r1 with | agg _ arr ha =>
        obtain ⟨v', g1, g2⟩ := hv w m arr ha
        have hg' : gs[i]? = some f := by simpa using hg
        have f1 := (fieldOk_run hfo w).1
        simp only at f1
        exact ⟨v', by simp [execOp, hρ, Instr.field, run_underlying hu, hg', asAgg, f1, g1], g2⟩
      · exact hl.elim
    · exact hl.elim
  | indexAddr t x i =>
    simp only [lightW] at hl
    split at hl
    · rename_i agg ks esz el p len sz k n hf hp hi
      obtain ⟨h1, h2, hl⟩ := hl
      rw [needSome_iff] at hl
      obtain ⟨a, rfl, hk⟩ := hl
      obtain ⟨hu, hse, -⟩ := (T.plain hf).slice
      refine .pure hk fun m w ρ hx => ?_
      have r1 := hx x (by simp [Op.operands]); rw [hp] at r1
      have r2 := hx i (by simp [Op.operands]); rw [hi] at r2
      generalize hρ : ρ x = xv at *; generalize hρ2 : ρ i = iv at *
      cases r2; cases r1 with | slice _ _ _ a' cap sl hm c1 c2 c3 =>
      have hcap : cap ≠ 0 := by omega
      obtain rfl := c3.resolve_left hcap
      refine ⟨.pointer (some (sl.addr (a.o + n.toNat * esz))), ?_, .ptr (a.add _) sl hm⟩
      have hc : 0 ≤ n ∧ n < (len : Int) := ⟨h1, h2⟩
      simp [execOp, hρ, hρ2, Instr.indexAt, asIntOf, run_underlying hu, hc, hse, Slot.addr_add]
    · rename_i agg ks len esz eag q k n hf hp hi
      obtain ⟨h1, h2, hl⟩ := hl
      rw [needSome_iff] at hl
      obtain ⟨a, rfl, hk⟩ := hl
      obtain ⟨u, hu, -, -, hd⟩ := (T.plain hf).desc
      cases u <;> simp [descOk] at hd
      rename_i n0 el
      obtain ⟨⟨⟨rfl, hd⟩, -⟩, -⟩ := hd
      refine .pure hk fun m w ρ hx => ?_
      have r1 := hx x (by simp [Op.operands]); rw [hp] at r1
      have r2 := hx i (by simp [Op.operands]); rw [hi] at r2
      generalize hρ : ρ x = xv at *; generalize hρ2 : ρ i = iv at *
      cases r2; cases r1 with | ptr _ sl hm =>
      refine ⟨.pointer (some (sl.addr (a.o + n.toNat * esz))), ?_, .ptr (a.add _) sl hm⟩
      cases hie : P.info? el with
      | none => simp [hie] at hd
      | some ie =>
        simp [hie] at hd
        have hse : (sizeOf el).run P w = .ok esz w := by simp [sizeOf, typeInfo, hie, hd]
        have hc : 0 ≤ n ∧ n < (len : Int) := ⟨h1, h2⟩
        simp [execOp, hρ, hρ2, Instr.indexAt, asIntOf, run_underlying hu, Instr.sureAddr, hc, hse, Slot.addr_add]
    · exact hl.elim
  | build t ps =>
    simp only [lightW] at hl
    have key : ∀ (place : Nat → Option (Nat × Nat)) (ks : List K1) (r : List AV) (m : Mp) (ρ : Operand → Value) (z : Array Value),
        fillA place (ks.map K1.zero) (ps.toList.map fun (i, x) => (i, e x)) = some r → goodParts (ps.toList.map fun (i, x) => (i, e x)) = true →
        VsRel m (ks.map K1.zero) z.toList → (∀ x ∈ (ps.toList.map (·.2)).toArray, VRel m (e x) (ρ x)) →
        ∃ rs, Instr.fill place z (ps.map fun (i, x) => (i, ρ x)).toList = some rs ∧ VsRel m r rs.toList := by
      intro place ks r m ρ z hfl hg hz hx
      refine fill_rel _ _ _ _ z hfl hg hz (by simp) fun j p q hp hq => ?_
      simp only [List.getElem?_map, Array.toList_map] at hp hq
      cases hj : ps.toList[j]? with
      | none => simp [hj] at hp
      | some px =>
        obtain ⟨pi, px⟩ := px
        simp [hj] at hp hq
        subst hp; subst hq
        refine ⟨rfl, hx px ?_⟩
        have := List.mem_of_getElem? hj
        simp only [List.mem_toArray, List.mem_map]
        exact ⟨_, this, rfl⟩
    split at hl
    · rename_i ks fs fl hf
      split at hl
      · rename_i r hg hfl
        obtain ⟨u, hu, -, -, hd⟩ := (T.plain hf).desc
        cases u <;> simp [descOk] at hd
        rename_i gs
        obtain ⟨z, hz1, hz2⟩ := (T.plain hf).zeroRun
        refine .pure hl fun m w ρ hx => ?_
        obtain ⟨rs, g1, g2⟩ := key _ ks r m ρ z.cells hfl hg (hz2 m) (fun x hxm => hx x (by simpa [Op.operands] using hxm))
        refine ⟨.agg rs, ?_, .agg _ _ g2⟩
        have hpl : ∃ places : Array (Nat × Nat), (gs.mapM fun f => do pure (f.offset, ← sizeOf f.type) : Sem (Array (Nat × Nat))).run P w = .ok places w ∧ ∀ i : Nat, places[i]? = (fs[i]?).map fun f => (f.1, f.2.1) := by
          have aux : ∀ (gl : List Field) (fl : List (Nat × Nat × Bool)), fieldsOk P gl fl = true → (gl.mapM fun f => do pure (f.offset, ← sizeOf f.type) : Sem (List (Nat × Nat))).run P w = .ok (fl.map fun f => (f.1, f.2.1)) w := by
            intro gl
            induction gl with
            | nil => intro fl h; cases fl <;> simp [fieldsOk] at h; rfl
            | cons f gl ih =>
              intro fl h
              cases fl with
              | nil => simp [fieldsOk] at h
              | cons x fl =>
                simp only [fieldsOk, Bool.and_eq_true] at h
                obtain ⟨q1, q2, q3⟩ := fieldOk_run h.1 w
                simp only [List.mapM_cons, Sem.run_bind, q2, Result.andThen_ok, Sem.run_pure, ih fl h.2, q1, List.map_cons]
          refine ⟨(fs.map fun f => (f.1, f.2.1)).toArray, ?_, fun i => by simp⟩
          rw [Array.mapM_eq_mapM_toList]
          simp only [Sem.run_map, aux gs.toList fs hd.1, Result.andThen_ok]
        obtain ⟨places, p1, p2⟩ := hpl
        have hpe : (fun i : Nat => places[i]?) = fun i => (fs[i]?).map fun f => (f.1, f.2.1) := funext p2
        simp only [execOp, Instr.build, Sem.run_bind, hz1, run_underlying hu, Result.andThen_ok, p1, hpe]
        rw [g1]; rfl
      · exact hl.elim
    · rename_i ks n esz eag hf
      split at hl
      · rename_i r hg hfl
        obtain ⟨u, hu, -, -, hd⟩ := (T.plain hf).desc
        cases u <;> simp [descOk] at hd
        rename_i n0 el
        obtain ⟨z, hz1, hz2⟩ := (T.plain hf).zeroRun
        refine .pure hl fun m w ρ hx => ?_
        obtain ⟨rs, g1, g2⟩ := key _ ks r m ρ z.cells hfl hg (hz2 m) (fun x hxm => hx x (by simpa [Op.operands] using hxm))
        refine ⟨.agg rs, ?_, .agg _ _ g2⟩
        cases hie : P.info? el with
        | none => simp [hie] at hd
        | some ie =>
          simp [hie] at hd
          have hse : ∀ w, (sizeOf el).run P w = .ok esz w := fun w => by simp [sizeOf, typeInfo, hie, hd]
          simp only [execOp, Instr.build, Sem.run_bind, hz1, run_underlying hu, Result.andThen_ok, hse]
          rw [g1]; rfl
      · exact hl.elim
    · exact hl.elim
  | index t x i =>
    simp only [lightW] at hl
    split at hl
    · rename_i d s k n hf hp hi
      obtain ⟨h1, h2, hk⟩ := hl
      obtain ⟨u, hu, -, hk0, -⟩ := (T.plain hf).desc
      obtain ⟨k0, e0, hk0⟩ := hk0 rfl
      cases e0
      cases u <;> simp [kindOk] at hk0
      refine .pure hk fun m w ρ hx => ?_
      have r1 := hx x (by simp [Op.operands]); rw [hp] at r1
      have r2 := hx i (by simp [Op.operands]); rw [hi] at r2
      generalize hρ : ρ x = xv at *; generalize hρ2 : ρ i = iv at *
      cases r1; cases r2
      refine ⟨.int .u8 (s.getD n.toNat 0).toNat, ?_, .int _ _⟩
      have hlt : n.toNat < s.length := by omega
      have hg : (ByteArray.mk s.toArray)[n.toNat]? = some (s.getD n.toNat 0) := by
        show (if h : n.toNat < (ByteArray.mk s.toArray).size then some _ else none) = _
        rw [dif_pos (by simpa [ByteArray.size] using hlt)]
        simp [List.getD, List.getElem?_eq_getElem hlt]
        rfl
      simp [execOp, hρ, hρ2, Instr.index, asIntOf, run_underlying hu, h1, hg]
    · rename_i agg ks len esz eag l k n hf hp hi
      obtain ⟨h1, h2, hl⟩ := hl
      obtain ⟨u, hu, -, -, hd⟩ := (T.plain hf).desc
      cases u <;> simp [descOk] at hd
      rename_i n0 el
      obtain ⟨⟨⟨rfl, hd⟩, hd2⟩, -⟩ := hd
      cases hie : P.info? el with
      | none => simp [hie] at hd
      | some ie =>
        simp [hie] at hd
        have hse : ∀ w, (sizeOf el).run P w = .ok esz w := fun w => by simp [sizeOf, typeInfo, hie, hd]
        cases hue : P.underlying el with
        | none => simp [hue] at hd2
        | some ue =>
          simp [hue] at hd2
          have hae : ∀ w, (isAgg el).run P w = .ok eag w := by
            intro w
            simp only [isAgg, Sem.run_bind, run_underlying hue, Result.andThen_ok]
            cases ue <;> simp [isAggD] at hd2 <;> subst hd2 <;> rfl
          obtain ⟨v, hk, hv⟩ := partA_run (P := P) (t := el) hl hse hae
          refine .pure hk fun m w ρ hx => ?_
          have r1 := hx x (by simp [Op.operands]); rw [hp] at r1
          have r2 := hx i (by simp [Op.operands]); rw [hi] at r2
          generalize hρ : ρ x = xv at *; generalize hρ2 : ρ i = iv at *
          cases r2; cases r1 with | agg _ arr ha =>
          obtain ⟨v', g1, g2⟩ := hv w m arr ha
          have hc : 0 ≤ n ∧ n < (len : Int) := ⟨h1, h2⟩
          exact ⟨v', by simp [execOp, hρ, hρ2, Instr.index, asIntOf, run_underlying hu, hc, hse, g1], g2⟩
    · exact hl.elim
  | extract x i =>
    simp only [lightW] at hl
    split at hl
    · rename_i l hp
      split at hl
      · rename_i v hv
        refine .pure hl fun m w ρ hx => ?_
        have r1 := hx x (by simp [Op.operands]); rw [hp] at r1
        generalize hρ : ρ x = xv at *; cases r1 with | tuple _ arr ha =>
        obtain ⟨v', g1, g2⟩ := ha.get hv
        exact ⟨v', by simp only [Array.getElem?_toList] at g1; simp [execOp, hρ, Instr.extract, g1], g2⟩
      · exact hl.elim
    · exact hl.elim
  | makeFunc fn l1 l2 =>
    simp only [lightW] at hl
    split at hl
    · rename_i f
      refine .pure hl fun m w ρ hx => ?_
      refine ⟨.func (.func f) (l1.map ρ) (l2.map ρ), by simp [execOp, Instr.makeFunc], .func _ _ _ _ _ _ (.func f) ?_ ?_⟩
      · refine VsRel.of_get (by simp) fun j v v' g1 g2 => ?_
        simp only [List.getElem?_map, Array.toList_map] at g1 g2
        cases hj : l1.toList[j]? with
        | none => simp [hj] at g1
        | some y => simp [hj] at g1 g2; subst g1; subst g2; exact hx y (by simp only [Op.operands]; have := List.mem_of_getElem? hj; simp at this ⊢; exact .inl this)
      · refine VsRel.of_get (by simp) fun j v v' g1 g2 => ?_
        simp only [List.getElem?_map, Array.toList_map] at g1 g2
        cases hj : l2.toList[j]? with
        | none => simp [hj] at g1
        | some y => simp [hj] at g1 g2; subst g1; subst g2; exact hx y (by simp only [Op.operands]; have := List.mem_of_getElem? hj; simp at this ⊢; exact .inr this)
    · exact hl.elim
  | slice t x lo hi mx =>
    cases mx with
    | some _ => simp only [lightW] at hl
    | none =>
    simp only [lightW] at hl
    have opr : ∀ (m : Mp) (ρ : Operand → Value), (∀ y ∈ (Op.slice t x lo hi none).operands, VRel m (e y) (ρ y)) →
        (∀ y, lo.map e = some y → ∃ y', lo.map ρ = some y' ∧ VRel m y y') ∧ (lo.map e = none → lo.map ρ = none) ∧ (∀ y, hi.map e = some y → ∃ y', hi.map ρ = some y' ∧ VRel m y y') ∧ (hi.map e = none → hi.map ρ = none) := by
      intro m ρ hx
      refine ⟨fun y hy => ?_, fun hy => by cases lo <;> simp_all, fun y hy => ?_, fun hy => by cases hi <;> simp_all⟩
      · cases lo with
        | none => simp at hy
        | some z => simp at hy; subst hy; exact ⟨_, rfl, hx z (by simp [Op.operands])⟩
      · cases hi with
        | none => simp at hy
        | some z => simp at hy; subst hy; exact ⟨_, rfl, hx z (by simp [Op.operands])⟩
    split at hl
    · rename_i d s hf hp
      obtain ⟨l, r, hlr, hrl, hk, hb⟩ := sliceArgs_run (P := P) hl
      obtain ⟨u, hu, -, hk0, -⟩ := (T.plain hf).desc
      obtain ⟨k0, e0, hk0⟩ := hk0 rfl
      cases e0
      cases u <;> simp [kindOk] at hk0
      refine .pure hk fun m w ρ hx => ?_
      have r1 := hx x (by simp [Op.operands]); rw [hp] at r1
      obtain ⟨o1, o2, o3, o4⟩ := opr m ρ hx
      generalize hρ : ρ x = xv at *; cases r1
      have hbb := hb m w false s.length (lo.map ρ) (hi.map ρ) (Nat.le_refl _) o1 o2 o3 o4
      have hext : (ByteArray.mk s.toArray).extract l r = ⟨((s.take r).drop l).toArray⟩ := by
        apply ByteArray.ext; simp [List.drop_take]
      refine ⟨.string ⟨((s.take r).drop l).toArray⟩, ?_, .str _⟩
      have hsz : (ByteArray.mk s.toArray).size = s.length := by simp [ByteArray.size]
      simp only [execOp, hρ, Instr.sliceAt, Instr.slice, Sem.run_bind, run_underlying hu, Result.andThen_ok, Option.map_none, Option.isSome_none, Bool.false_eq_true, if_false, hsz, hbb, hext]
      simp
    · rename_i agg ks esz el p len sz hf hp
      cases hz : Nat.beq esz sz with
      | false => simp [hz] at hl
      | true =>
      simp only [hz, cond_true] at hl
      have := Nat.eq_of_beq_eq_true hz; subst this
      obtain ⟨l, r, hlr, hrl, hk, hb⟩ := sliceArgs_run (P := P) hl
      obtain ⟨hu, hse, -⟩ := (T.plain hf).slice
      refine .pure hk fun m w ρ hx => ?_
      have r1 := hx x (by simp [Op.operands]); rw [hp] at r1
      obtain ⟨o1, o2, o3, o4⟩ := opr m ρ hx
      · generalize hρ : ρ x = xv at *
        cases r1 with
        | snil _ =>
          have hbb := hb m w true 0 (lo.map ρ) (hi.map ρ) (Nat.le_refl _) o1 o2 o3 o4
          obtain rfl : r = 0 := by omega
          obtain rfl : l = 0 := by omega
          refine ⟨.slice none 0 0, ?_, .snil _⟩
          simp only [execOp, hρ, Instr.sliceAt, Instr.slice, Sem.run_bind, run_underlying hu, Result.andThen_ok, Option.map_none, hbb, hse]
          simp
        | slice p0 _ _ a' cap sl hm c1 c2 c3 =>
          have hbb := hb m w true cap (lo.map ρ) (hi.map ρ) c1 o1 o2 o3 o4
          refine ⟨.slice (some (if cap = l then a' else a'.add (l * esz))) (r - l) (cap - l), ?_, ?_⟩
          · simp only [execOp, hρ, Instr.sliceAt, Instr.slice, Sem.run_bind, run_underlying hu, Result.andThen_ok, Option.map_none, hbb, hse]
            by_cases hcl : cap = l <;> simp [hcl]
          · have hmul : (cap - l) * esz + l * esz = cap * esz := by rw [← Nat.add_mul]; congr 1; omega
            refine .slice (p0.add (l * esz)) (r - l) esz _ (cap - l) sl hm (by omega) (by simp only [Pt.add]; omega) ?_
            by_cases hcl : cap = l
            · left; omega
            · right
              obtain rfl := c3.resolve_left (by omega)
              rw [if_neg hcl, Slot.addr_add]; rfl
    · rename_i agg ks n esz eag q hf hp
      rw [needSome_iff] at hl
      obtain ⟨a, rfl, c, hr, hl⟩ := hl
      obtain ⟨l, r, hlr, hrl, hk, hb⟩ := sliceArgs_run (P := P) hl
      obtain ⟨u, hu, -, -, hd⟩ := (T.plain hf).desc
      cases u <;> simp [descOk] at hd
      rename_i n0 el
      obtain ⟨⟨⟨rfl, hd⟩, -⟩, -⟩ := hd
      refine ⟨_, _, hk, ⟨c, hr⟩, fun h' ⟨c', hr'⟩ m w ρ s hx => ?_⟩
      have r1 := hx x (by simp [Op.operands]); rw [hp] at r1
      obtain ⟨o1, o2, o3, o4⟩ := opr m ρ hx
      cases hie : P.info? el with
      | none => simp [hie] at hd
      | some ie =>
        simp [hie] at hd
        have hse : (sizeOf el).run P w = .ok esz w := by simp [sizeOf, typeInfo, hie, hd]
        generalize hρ : ρ x = xv at *
        cases r1 with | ptr _ sl hm =>
        have hbb := hb m w false n (lo.map ρ) (hi.map ρ) (Nat.le_refl _) o1 o2 o3 o4
        have hroom : a.o + n * esz ≤ sl.room := by
          unfold AH.rd at hr'
          split at hr'
          · rename_i ro fz el' cc hc
            split at hr'
            · obtain ⟨arr, lo', hi', hw, h2, h3, -⟩ := s.cells _ _ _ _ _ _ hc hm
              omega
            · simp at hr'
          · simp at hr'
        refine ⟨.slice (some (if n = l then sl.addr a.o else (sl.addr a.o).add (l * esz))) (r - l) (n - l), ?_, ?_⟩
        · simp only [execOp, hρ, Instr.sliceAt, Instr.sureAddr, Sem.run_bind, run_underlying hu, Result.andThen_ok, Option.map_none, Sem.run_pure, hbb, hse]
        · have hmul : (n - l) * esz + l * esz = n * esz := by rw [← Nat.add_mul]; congr 1; omega
          refine .slice (a.add (l * esz)) (r - l) esz _ (n - l) sl hm (by omega) (by simp only [Pt.add]; omega) ?_
          by_cases hcl : n = l
          · left; omega
          · right; rw [if_neg hcl, Slot.addr_add]; rfl
    · exact hl.elim
  | call c =>
    obtain ⟨callee, args, argTypes⟩ := c
    simp only [lightW] at hl
    split at hl
    · split at hl
      · rename_i t x ht hxs
        have ea : args = #[x] := by cases args; simp at hxs; subst hxs; rfl
        have et : argTypes = #[t] := by cases argTypes; simp at ht; subst ht; rfl
        subst ea; subst et
        unfold lenW at hl
        split at hl
        · rename_i sz d p len sz2 hf hp
          obtain ⟨u, hu, -, hk0, -⟩ := (T.plain hf).desc
          obtain ⟨k0, e0, hk0⟩ := hk0 rfl
          cases e0
          cases u <;> simp [kindOk] at hk0
          refine .pure hl fun m w ρ hx => ?_
          have r1 := hx x (by simp [Op.operands, Call.operands]); rw [hp] at r1
          generalize hρ : ρ x = xv at *
          cases r1 with
          | snil _ => exact ⟨.int .i64 0, by simp [execOp, resolve, hρ, invoke, builtin, Builtin.len_, run_underlying hu, goInt], .int _ _⟩
          | slice p0 _ _ a' cap sl hm c1 c2 c3 => exact ⟨.int .i64 len, by simp [execOp, resolve, hρ, invoke, builtin, Builtin.len_, run_underlying hu, goInt], .int _ _⟩
        · rename_i kt et hf hp
          have hu := T.mapTy hf
          refine .pure hl fun m w ρ hx => ?_
          have r1 := hx x (by simp [Op.operands, Call.operands]); rw [hp] at r1
          generalize hρ : ρ x = xv at *
          cases r1
          exact ⟨.int .i64 0, by simp [execOp, resolve, hρ, invoke, builtin, Builtin.len_, run_underlying hu, goInt], .int _ _⟩
        · rename_i kt et b hf hp
          have hu := T.mapTy hf
          obtain ⟨es, clk, hb, hk⟩ := hl
          refine ⟨_, _, hk, ⟨es, clk, hb, rfl⟩, fun h' hr' m w ρ s hx => ?_⟩
          obtain ⟨es', clk', hb', hlen⟩ := hr'
          have r1 := hx x (by simp [Op.operands, Call.operands]); rw [hp] at r1
          generalize hρ : ρ x = xv at *
          cases r1 with | map _ sl hm =>
          obtain ⟨-, ob, hw, ho⟩ := s.objs b _ sl hb' (by simp) hm
          cases ho with | map _ arr _ her =>
          have hobj : (getObj sl.cb).run P w = .ok (.map arr clk') w := by simp [getObj, Sem.run, hw]
          have hsz : arr.size = es.length := by have := her.length; rw [hlen] at this; simpa using this
          exact ⟨.int .i64 es.length, by simp [execOp, resolve, hρ, invoke, builtin, Builtin.len_, run_underlying hu, goInt, hobj, hsz], .int _ _⟩
        · rename_i d s hf hp
          obtain ⟨u, hu, -, hk0, -⟩ := (T.plain hf).desc
          obtain ⟨k0, e0, hk0⟩ := hk0 rfl
          cases e0
          cases u <;> simp [kindOk] at hk0
          refine .pure hl fun m w ρ hx => ?_
          have r1 := hx x (by simp [Op.operands, Call.operands]); rw [hp] at r1
          generalize hρ : ρ x = xv at *
          cases r1
          have hsz : (ByteArray.mk s.toArray).size = s.length := by simp [ByteArray.size]
          exact ⟨.int .i64 s.length, by simp [execOp, resolve, hρ, invoke, builtin, Builtin.len_, run_underlying hu, goInt, hsz], .int _ _⟩
        · exact hl.elim
      · exact hl.elim
    · split at hl
      · rename_i t x ht hxs
        have ea : args = #[x] := by cases args; simp at hxs; subst hxs; rfl
        have et : argTypes = #[t] := by cases argTypes; simp at ht; subst ht; rfl
        subst ea; subst et
        split at hl
        · rename_i sz esz el len sz2 hf hp
          obtain ⟨u, hu, -, hk0, -⟩ := (T.plain hf).desc
          obtain ⟨k0, e0, hk0⟩ := hk0 rfl
          cases e0
          cases u <;> simp [kindOk] at hk0
          refine .pure hl fun m w ρ hx => ?_
          have r1 := hx x (by simp [Op.operands, Call.operands]); rw [hp] at r1
          generalize hρ : ρ x = xv at *
          cases r1
          exact ⟨.int .i64 0, by simp [execOp, resolve, hρ, invoke, builtin, Builtin.cap_, run_underlying hu, goInt], .int _ _⟩
        · exact hl.elim
      · exact hl.elim
    · split at hl
      · rename_i x hxs
        have ea : args = #[x] := by cases args; simp at hxs; subst hxs; rfl
        subst ea
        split at hl
        · rename_i len sz hp
          refine .pure hl fun m w ρ hx => ?_
          have r1 := hx x (by simp [Op.operands, Call.operands]); rw [hp] at r1
          generalize hρ : ρ x = xv at *
          cases r1
          exact ⟨.pointer none, by simp [execOp, resolve, hρ, invoke, builtin, Lib.run_unsafeSliceData_nil], .pnil⟩
        · rename_i p len sz hp
          refine .pure hl.2 fun m w ρ hx => ?_
          have r1 := hx x (by simp [Op.operands, Call.operands]); rw [hp] at r1
          generalize hρ : ρ x = xv at *
          cases r1 with | slice _ _ _ a cap sl hm c1 c2 c3 =>
          have hcap : cap ≠ 0 := by have := hl.1; omega
          obtain rfl := c3.resolve_left hcap
          exact ⟨.pointer (some (sl.addr p.o)), by simp [execOp, resolve, hρ, invoke, builtin, Lib.run_unsafeSliceData_row w _ _ _ _ _ hcap], .ptr p sl hm⟩
        · exact hl.elim
      · exact hl.elim
    · split at hl
      · rename_i x y hxs
        have ea : args = #[x, y] := by cases args; simp at hxs; subst hxs; rfl
        subst ea
        split at hl
        · rename_i k a k' b h1 h2
          by_cases hk : k = k'
          · subst hk
            simp only [decide_true, cond_true] at hl
            refine .pure hl fun m w ρ hx => ?_
            have r1 := hx x (by simp [Op.operands, Call.operands]); rw [h1] at r1
            have r2 := hx y (by simp [Op.operands, Call.operands]); rw [h2] at r2
            generalize hρ : ρ x = xv at *; generalize hρ2 : ρ y = yv at *
            cases r1; cases r2
            exact ⟨.int k _, by simp [execOp, resolve, hρ, hρ2, invoke, builtin, Builtin.max_, Builtin.max2], .int _ _⟩
          · simp [hk] at hl
        · exact hl.elim
      · exact hl.elim
    · split at hl
      · rename_i x y hxs
        have ea : args = #[x, y] := by cases args; simp at hxs; subst hxs; rfl
        subst ea
        split at hl
        · rename_i k a k' b h1 h2
          by_cases hk : k = k'
          · subst hk
            simp only [decide_true, cond_true] at hl
            refine .pure hl fun m w ρ hx => ?_
            have r1 := hx x (by simp [Op.operands, Call.operands]); rw [h1] at r1
            have r2 := hx y (by simp [Op.operands, Call.operands]); rw [h2] at r2
            generalize hρ : ρ x = xv at *; generalize hρ2 : ρ y = yv at *
            cases r1; cases r2
            exact ⟨.int k _, by simp [execOp, resolve, hρ, hρ2, invoke, builtin, Builtin.min_, Builtin.min2], .int _ _⟩
          · simp [hk] at hl
        · exact hl.elim
      · exact hl.elim
    · exact hl.elim
  | _ => simp only [lightW] at hl
end Go.La
